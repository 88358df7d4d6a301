import PyProof.Rows.All
import Wide.All
import OpenK.AllK
import Wide.FinOn
import KE.IntBitsLaws
import PyProof.ListIndex
import PyProof.NoPylong
import HandS.ForMost
import HandS.Walk
import HandS.IsInst
import HandS.Style
import HandS.Zip
import HandS.Defaults
import HandS.Head0
import HandS.Head1
import HandS.Head2
import HandS.HeadEnd
import HandS.HeadHook1
import HandS.HeadHook2
import PySem.Challenge.RW_allscales_k51_whole_kinds_of_letters
set_option Elab.async false
set_option linter.all false
set_option maxRecDepth 100000
set_option maxHeartbeats 200000
/-! Determinants of integer matrices over lists: expansion by the first column, rows, the first row. Plain Lean. -/
namespace K51
abbrev Row := Nat → Int

/-- alternating sum over the items of a list; f sees the list without the item -/
def altE {α : Type} (f : List α → Int) (g : α → Int) : List α → List α → Int
  | _, [] => 0
  | pre, r :: rs => g r * f (pre ++ rs) - altE f g (pre ++ [r]) rs

/-- the determinant of the columns J of some rows -/
def D : List Nat → List Row → Int
  | [], _ => 1
  | j :: J, rows => altE (D J) (fun r => r j) [] rows

theorem altE_prefix {α : Type} (f : List α → Int) (g : α → Int) (p : List α) : ∀ (rs pre : List α), altE f g (p ++ pre) rs = altE (fun l => f (p ++ l)) g pre rs
  | [], _ => rfl
  | r :: rs, pre => by
    simp only [altE, List.append_assoc]
    rw [altE_prefix f g p rs (pre ++ [r])]

theorem altE_congr {α : Type} {f f' : List α → Int} {g : α → Int} : ∀ (rs pre : List α), (∀ l, l.length + 1 = pre.length + rs.length → f l = f' l) → altE f g pre rs = altE f' g pre rs
  | [], _, _ => rfl
  | r :: rs, pre, h => by
    simp only [altE]
    rw [h (pre ++ rs) (by simp; omega), altE_congr rs (pre ++ [r]) (fun l hl => h l (by simp at hl ⊢; omega))]

theorem altE_neg {α : Type} (f : List α → Int) (g : α → Int) : ∀ (rs pre : List α), altE (fun l => - f l) g pre rs = - altE f g pre rs
  | [], _ => rfl
  | r :: rs, pre => by
    simp only [altE]
    rw [altE_neg f g rs]
    rw [Int.mul_neg]; omega

theorem altE_mul {α : Type} (f : List α → Int) (g : α → Int) (c : Int) : ∀ (rs pre : List α), altE (fun l => c * f l) g pre rs = c * altE f g pre rs
  | [], _ => by simp [altE]
  | r :: rs, pre => by
    simp only [altE]
    rw [altE_mul f g c rs, Int.mul_sub, ← Int.mul_assoc, ← Int.mul_assoc, Int.mul_comm (g r) c]

theorem altE_sub {α : Type} (f f' : List α → Int) (g : α → Int) : ∀ (rs pre : List α), altE (fun l => f l - f' l) g pre rs = altE f g pre rs - altE f' g pre rs
  | [], _ => rfl
  | r :: rs, pre => by
    simp only [altE]
    rw [altE_sub f f' g rs, Int.mul_sub]; omega

/-- two sums in one order or the other -/
theorem altE_swap {α β : Type} (F : List α → List β → Int) (g : α → Int) (h : β → Int) (ys : List β) : ∀ (xs pre : List α),
    altE (fun x => altE (F x) h [] ys) g pre xs = altE (fun y => altE (fun x => F x y) g pre xs) h [] ys
  | [], _ => by
    simp only [altE]
    have : ∀ (ys pre : List β), altE (fun _ => (0 : Int)) h pre ys = 0 := by
      intro ys
      induction ys with
      | nil => intro _; rfl
      | cons y ys ih => intro pre; simp [altE, ih]
    rw [this]
  | x :: xs, pre => by
    simp only [altE]
    rw [altE_swap F g h ys xs (pre ++ [x]), altE_sub, altE_mul]

theorem altE_zero {α : Type} (f : List α → Int) (g : α → Int) : ∀ (rs pre : List α), (∀ r ∈ rs, g r = 0) → altE f g pre rs = 0
  | [], _, _ => rfl
  | r :: rs, pre, h => by
    simp only [altE]
    rw [h r (by simp), altE_zero f g rs _ (fun x hx => h x (by simp [hx]))]
    simp

/-- the expansion behind a first part -/
theorem altE_append {α : Type} (f : List α → Int) (g : α → Int) : ∀ (xs ys pre : List α), altE f g pre (xs ++ ys) = altE (fun l => f (l ++ ys)) g pre xs + (if xs.length % 2 = 0 then altE f g (pre ++ xs) ys else - altE f g (pre ++ xs) ys)
  | [], ys, pre => by simp [altE]
  | x :: xs, ys, pre => by
    simp only [List.cons_append, altE, List.length_cons]
    rw [altE_append f g xs ys (pre ++ [x])]
    simp only [List.append_assoc, List.singleton_append]
    by_cases h : xs.length % 2 = 0
    · rw [if_pos h, if_neg (by omega)]; omega
    · rw [if_neg h, if_pos (by omega)]; omega

/-- two neighbours exchanged -/
theorem D_swap : ∀ (J : List Nat) (pre post : List Row) (a b : Row), J.length = pre.length + post.length + 2 →
    D J (pre ++ a :: b :: post) = - D J (pre ++ b :: a :: post)
  | [], pre, post, a, b, h => by simp at h
  | j :: J, pre, post, a, b, h => by
    have key : ∀ (ps qs : List Row), (qs ++ ps).length = pre.length → altE (D J) (fun r => r j) qs (ps ++ a :: b :: post) = - altE (D J) (fun r => r j) qs (ps ++ b :: a :: post) := by
      intro ps
      induction ps with
      | nil =>
        intro qs hq
        simp only [List.nil_append, altE, List.append_assoc, List.cons_append]
        have e : altE (D J) (fun r => r j) (qs ++ [a, b]) post = - altE (D J) (fun r => r j) (qs ++ [b, a]) post := by
          rw [← altE_neg]
          have e1 : altE (D J) (fun r => r j) (qs ++ [a, b]) post = altE (fun l => D J (qs ++ a :: b :: l)) (fun r => r j) [] post := by
            have := altE_prefix (D J) (fun r => r j) (qs ++ [a, b]) post []
            simp only [List.append_nil, List.append_assoc, List.cons_append, List.nil_append] at this
            exact this
          have e2 : altE (fun l => - D J l) (fun r => r j) (qs ++ [b, a]) post = altE (fun l => - D J (qs ++ b :: a :: l)) (fun r => r j) [] post := by
            have := altE_prefix (fun l => - D J l) (fun r => r j) (qs ++ [b, a]) post []
            simp only [List.append_nil, List.append_assoc, List.cons_append, List.nil_append] at this
            exact this
          rw [e1, e2]
          refine altE_congr _ _ fun l hl => ?_
          exact D_swap J qs l a b (by simp at hl hq h ⊢; omega)
        rw [e]
        omega
      | cons p ps ih =>
        intro qs hq
        simp only [List.cons_append, altE]
        rw [ih (qs ++ [p]) (by simp at hq ⊢; omega)]
        have : D J (qs ++ (ps ++ a :: b :: post)) = - D J (qs ++ (ps ++ b :: a :: post)) := by
          rw [← List.append_assoc, ← List.append_assoc]
          exact D_swap J (qs ++ ps) post a b (by simp at hq h ⊢; omega)
        rw [this, Int.mul_neg]
        omega
    exact key pre [] (by simp)

/-- a row moved to the head -/
theorem D_move (J : List Nat) (post : List Row) (a : Row) : ∀ (pre : List Row), J.length = pre.length + post.length + 1 → ∀ (pp : List Row) (J' : List Nat), J'.length = pp.length + J.length →
    D J' (pp ++ (pre ++ a :: post)) = (if pre.length % 2 = 0 then D J' (pp ++ a :: (pre ++ post)) else - D J' (pp ++ a :: (pre ++ post)))
  | [], _, pp, J', _ => by simp
  | p :: pre, h, pp, J', h' => by
    have ih := D_move (J.tail) post a pre (by simp at h ⊢; omega) (pp ++ [p]) J' (by simp at h h' ⊢; omega)
    simp only [List.append_assoc, List.nil_append, List.cons_append] at ih ⊢
    rw [ih, D_swap J' pp (pre ++ post) p a (by simp at h h' ⊢; omega)]
    simp only [List.length_cons]
    by_cases e : pre.length % 2 = 0
    · rw [if_pos e, if_neg (by omega)]
    · rw [if_neg e, if_pos (by omega)]; omega

theorem D_head (J : List Nat) (pre post : List Row) (a : Row) (h : J.length = pre.length + post.length + 1) :
    D J (pre ++ a :: post) = (if pre.length % 2 = 0 then D J (a :: (pre ++ post)) else - D J (a :: (pre ++ post))) := by
  have := D_move J post a pre h [] J (by simp)
  simpa using this

theorem D_abs_head (J : List Nat) (pre post : List Row) (a : Row) (h : J.length = pre.length + post.length + 1) :
    (D J (pre ++ a :: post)).natAbs = (D J (a :: (pre ++ post))).natAbs := by
  rw [D_head J pre post a h]
  split
  · rfl
  · exact Int.natAbs_neg _

theorem D_two (J : List Nat) (post : List Row) (a : Row) (h : J.length = post.length + 2) : D J (a :: a :: post) = 0 := by
  have := D_swap J [] post a a (by simpa using h)
  simp only [List.nil_append] at this
  omega

/-- two rows alike -/
theorem D_dup (J : List Nat) (p q r : List Row) (a : Row) (h : J.length = p.length + q.length + r.length + 2) : D J (p ++ a :: (q ++ a :: r)) = 0 := by
  have h1 : (D J (p ++ a :: (q ++ a :: r))).natAbs = 0 := by
    rw [D_abs_head J p (q ++ a :: r) a (by simp; omega)]
    have e : a :: (p ++ (q ++ a :: r)) = (a :: (p ++ q)) ++ a :: r := by simp
    rw [e, D_abs_head J (a :: (p ++ q)) r a (by simp; omega)]
    simp only [List.cons_append]
    rw [D_two J _ a (by simp; omega)]
    rfl
  exact Int.natAbs_eq_zero.mp h1

/-- linear in a row -/
theorem D_lin : ∀ (J : List Nat) (pre post : List Row) (a b : Row) (q : Int), J.length = pre.length + post.length + 1 →
    D J (pre ++ (fun k => a k - q * b k) :: post) = D J (pre ++ a :: post) - q * D J (pre ++ b :: post)
  | [], pre, post, a, b, q, h => by simp at h
  | j :: J, pre, post, a, b, q, h => by
    have key : ∀ (ps qs : List Row), (qs ++ ps).length = pre.length →
        altE (D J) (fun r => r j) qs (ps ++ (fun k => a k - q * b k) :: post) = altE (D J) (fun r => r j) qs (ps ++ a :: post) - q * altE (D J) (fun r => r j) qs (ps ++ b :: post) := by
      intro ps
      induction ps with
      | nil =>
        intro qs hq
        simp only [List.nil_append, altE]
        have e : altE (D J) (fun r => r j) (qs ++ [fun k => a k - q * b k]) post = altE (D J) (fun r => r j) (qs ++ [a]) post - q * altE (D J) (fun r => r j) (qs ++ [b]) post := by
          have f : ∀ c : Row, altE (D J) (fun r => r j) (qs ++ [c]) post = altE (fun l => D J (qs ++ c :: l)) (fun r => r j) [] post := by
            intro c
            have := altE_prefix (D J) (fun r => r j) (qs ++ [c]) post []
            simp only [List.append_nil, List.append_assoc, List.cons_append, List.nil_append] at this
            exact this
          rw [f, f, f, ← altE_mul, ← altE_sub]
          refine altE_congr _ _ fun l hl => ?_
          exact D_lin J qs l a b q (by simp at hl hq h ⊢; omega)
        rw [e, Int.sub_mul, Int.mul_sub, Int.mul_assoc]
        omega
      | cons p ps ih =>
        intro qs hq
        simp only [List.cons_append, altE]
        rw [ih (qs ++ [p]) (by simp at hq ⊢; omega)]
        have : D J (qs ++ (ps ++ (fun k => a k - q * b k) :: post)) = D J (qs ++ (ps ++ a :: post)) - q * D J (qs ++ (ps ++ b :: post)) := by
          rw [← List.append_assoc, ← List.append_assoc, ← List.append_assoc]
          exact D_lin J (qs ++ ps) post a b q (by simp at hq h ⊢; omega)
        rw [this, Int.mul_sub, Int.mul_sub, ← Int.mul_assoc, ← Int.mul_assoc, Int.mul_comm (p j) q]
        omega
    exact key pre [] (by simp)

/-- expansion by the first row -/
theorem D_row : ∀ (J : List Nat) (r : Row) (rs : List Row), J.length = rs.length + 1 → D J (r :: rs) = altE (fun J' => D J' rs) (fun j => r j) [] J
  | [], _, _, h => by simp at h
  | j :: J, r, rs, h => by
    simp only [D, altE, List.nil_append]
    have e1 : altE (D J) (fun r => r j) [r] rs = altE (fun l => D J (r :: l)) (fun r => r j) [] rs := by
      have := altE_prefix (D J) (fun r => r j) [r] rs []
      simpa using this
    have e2 : altE (fun J' => D J' rs) (fun j => r j) [j] J = altE (fun l => D (j :: l) rs) (fun j => r j) [] J := by
      have := altE_prefix (fun J' => D J' rs) (fun j => r j) [j] J []
      simpa using this
    rw [e1, e2]
    have e3 : altE (fun l => D J (r :: l)) (fun r => r j) [] rs = altE (fun l => altE (fun J' => D J' l) (fun j => r j) [] J) (fun r => r j) [] rs := by
      refine altE_congr _ _ fun l hl => ?_
      exact D_row J r l (by simp at hl h; omega)
    rw [e3, altE_swap (fun l J' => D J' l)]
    rfl

/-- the transposed matrix -/
theorem D_T (G : Nat → Nat → Int) : ∀ (J I : List Nat), I.length = J.length → D J (I.map G) = D I (J.map fun j i => G i j)
  | [], [], _ => rfl
  | [], _ :: _, h => by simp at h
  | j :: J, I, h => by
    have e : D I ((j :: J).map fun j i => G i j) = altE (fun I' => D I' (J.map fun j i => G i j)) (fun i => G i j) [] I := by
      rw [List.map_cons, D_row I _ _ (by simpa using h)]
    rw [e]
    have : ∀ (I pre : List Nat), (pre ++ I).length = J.length + 1 → altE (D J) (fun r => r j) (pre.map G) (I.map G) = altE (fun I' => D I' (J.map fun j i => G i j)) (fun i => G i j) pre I := by
      intro I
      induction I with
      | nil => intro _ _; rfl
      | cons i I ih =>
        intro pre hp
        simp only [List.map_cons, altE]
        have e1 : D J (pre.map G ++ I.map G) = D (pre ++ I) (J.map fun j i => G i j) := by
          rw [← List.map_append]
          exact D_T G J (pre ++ I) (by simp at hp ⊢; omega)
        have e2 := ih (pre ++ [i]) (by simp at hp ⊢; omega)
        rw [List.map_append] at e2
        rw [e1, ← e2]
        rfl
    have := this I [] (by simpa using h)
    simpa [D] using this

/-- a column twice -/
theorem D_col_dup (G : Nat → Nat → Int) (c : Nat) (J I : List Nat) (h : I.length = J.length + 1) (hc : c ∈ J) : D (c :: J) (I.map G) = 0 := by
  obtain ⟨p, q, rfl⟩ := List.append_of_mem hc
  rw [D_T G (c :: (p ++ c :: q)) I (by simpa using h)]
  have := D_dup I [] (p.map fun j i => G i j) (q.map fun j i => G i j) (fun i => G i c) (by simp at h ⊢; omega)
  simpa using this

section
variable {α : Type} (val : α → Row)
/-- a weighted sum of determinants in which a row is replaced by z -/
def rep (J : List Nat) (z : Row) (g : α → Int) : List Row → List α → Int
  | _, [] => 0
  | pre, r :: rs => g r * D J (pre ++ z :: rs.map val) + rep J z g (pre ++ [val r]) rs

/-- multiples of one row taken off the rows behind a first part -/
theorem D_take (J : List Nat) (z : Row) (q : α → Int) : ∀ (rs : List α) (pre : List Row), J.length = pre.length + rs.length →
    D J (pre ++ rs.map fun r => fun k => val r k - q r * z k) = D J (pre ++ rs.map val) - rep val J z q pre rs
  | [], pre, _ => by simp [rep]
  | r :: rs, pre, h => by
    simp only [List.map_cons, rep]
    rw [D_lin J pre _ (val r) z (q r) (by simp at h ⊢; omega)]
    have e1 := D_take J z q rs (pre ++ [val r]) (by simp at h ⊢; omega)
    simp only [List.append_assoc, List.cons_append, List.nil_append] at e1
    rw [e1]
    -- behind z the multiples of z vanish
    have e2 : ∀ (rs : List α) (qs : List Row), J.length = pre.length + 1 + qs.length + rs.length → D J (pre ++ z :: (qs ++ rs.map fun r => fun k => val r k - q r * z k)) = D J (pre ++ z :: (qs ++ rs.map val)) := by
      intro rs
      induction rs with
      | nil => intro _ _; rfl
      | cons r rs ih =>
        intro qs hq
        have a1 := D_lin J (pre ++ z :: qs) (rs.map fun r => fun k => val r k - q r * z k) (val r) z (q r) (by simp at hq ⊢; omega)
        simp only [List.append_assoc, List.cons_append] at a1
        rw [List.map_cons, a1, D_dup J pre qs _ z (by simp at hq ⊢; omega)]
        have a2 := ih (qs ++ [val r]) (by simp at hq ⊢; omega)
        simp only [List.append_assoc, List.cons_append, List.nil_append] at a2
        rw [a2, List.map_cons]; omega
    have e3 := e2 rs [] (by simp at h ⊢; omega)
    simp only [List.nil_append] at e3
    rw [e3]; omega

/-- the first column's expansion below the first row, that row put in the place of each -/
theorem altE_rep (J : List Nat) (z : Row) (c : Nat) : ∀ (rs : List α) (pre : List Row), J.length = pre.length + rs.length →
    altE (D J) (fun r => r c) (z :: pre) (rs.map val) = (if pre.length % 2 = 0 then rep val J z (fun r => val r c) pre rs else - rep val J z (fun r => val r c) pre rs)
  | [], _, _ => by simp [altE, rep]
  | r :: rs, pre, h => by
    simp only [altE, rep, List.map_cons]
    have ih := altE_rep J z c rs (pre ++ [val r]) (by simp at h ⊢; omega)
    simp only [List.cons_append, List.length_append, List.length_cons, List.length_nil] at ih ⊢
    rw [ih]
    have hd := D_head J pre (rs.map val) z (by simp at h ⊢; omega)
    by_cases e : pre.length % 2 = 0
    · rw [if_pos e] at hd
      rw [if_pos e, if_neg (by omega), hd]; omega
    · rw [if_neg e] at hd
      rw [if_neg e, if_pos (by omega), hd, Int.mul_neg]; omega

theorem rep_sub (J : List Nat) (z : Row) (g h : α → Int) : ∀ (rs : List α) (pre : List Row), rep val J z (fun r => g r - h r) pre rs = rep val J z g pre rs - rep val J z h pre rs
  | [], _ => rfl
  | r :: rs, pre => by
    simp only [rep]
    rw [rep_sub J z g h rs, Int.sub_mul]; omega
theorem rep_mul (J : List Nat) (z : Row) (g : α → Int) (c : Int) : ∀ (rs : List α) (pre : List Row), rep val J z (fun r => g r * c) pre rs = c * rep val J z g pre rs
  | [], _ => by simp [rep]
  | r :: rs, pre => by
    simp only [rep]
    rw [rep_mul J z g c rs, Int.mul_add, Int.mul_comm (g r) c, Int.mul_assoc]

/-- THE STEP: multiples of the row z taken off the others; c is the pivot's column -/
theorem D_phase (J : List Nat) (c : Nat) (z : Row) (q : α → Int) (rs : List α) (h : J.length = rs.length) :
    z c * D J (rs.map fun r => fun k => val r k - q r * z k) = D (c :: J) (z :: rs.map val) + rep val J z (fun r => val r c - q r * z c) [] rs := by
  have e1 := D_take val J z q rs [] (by simpa using h)
  simp only [List.nil_append] at e1
  have e2 := altE_rep val J z c rs [] (by simpa using h)
  simp only [List.length_nil, if_true] at e2
  have e3 : D (c :: J) (z :: rs.map val) = z c * D J (rs.map val) - rep val J z (fun r => val r c) [] rs := by
    have : D (c :: J) (z :: rs.map val) = z c * D J (rs.map val) - altE (D J) (fun r => r c) [z] (rs.map val) := rfl
    rw [this, e2]
  rw [e1, e3, rep_sub, rep_mul, Int.mul_sub]; omega

theorem rep_abs (J : List Nat) (z : Row) (g : α → Int) (e M : Nat) : ∀ (rs : List α) (pre : List Row), (∀ r ∈ rs, (g r).natAbs ≤ e) →
    (∀ (p q : List α) (r : α), rs = p ++ r :: q → (D J (pre ++ p.map val ++ z :: q.map val)).natAbs ≤ M) → (rep val J z g pre rs).natAbs ≤ rs.length * (e * M)
  | [], _, _, _ => by simp [rep]
  | r :: rs, pre, he, hM => by
    simp only [rep, List.length_cons]
    have h1 := rep_abs J z g e M rs (pre ++ [val r]) (fun x hx => he x (by simp [hx])) (fun p q x hx => by
      have := hM (r :: p) q x (by simp [hx])
      simpa using this)
    have h2 : (g r * D J (pre ++ z :: rs.map val)).natAbs ≤ e * M := by
      rw [Int.natAbs_mul]
      refine Nat.mul_le_mul (he r (by simp)) ?_
      have := hM [] rs r rfl
      simpa using this
    have h3 := Int.natAbs_add_le (g r * D J (pre ++ z :: rs.map val)) (rep val J z g (pre ++ [val r]) rs)
    rw [Nat.add_mul]; omega
end

/-- a column that is 0 but in the first row -/
theorem D_col_zero (J : List Nat) (c : Nat) (z : Row) (rs : List Row) (h : ∀ r ∈ rs, r c = 0) : D (c :: J) (z :: rs) = z c * D J rs := by
  show z c * D J ([] ++ rs) - altE (D J) (fun r => r c) ([] ++ [z]) rs = _
  rw [altE_zero _ _ _ _ h]
  exact Int.sub_zero _
/-- a column of zeros -/
theorem D_zero_col (J : List Nat) (c : Nat) (rs : List Row) (h : ∀ r ∈ rs, r c = 0) : D (c :: J) rs = 0 := by
  show altE (D J) (fun r => r c) [] rs = 0
  rw [altE_zero _ _ _ _ h]

theorem altE_abs {α : Type} (f : List α → Int) (g : α → Int) (A M : Nat) : ∀ (rs pre : List α), (∀ r ∈ rs, (g r).natAbs ≤ A) → (∀ p q r, rs = p ++ r :: q → (f (pre ++ (p ++ q))).natAbs ≤ M) → (altE f g pre rs).natAbs ≤ rs.length * (A * M)
  | [], _, _, _ => by simp [altE]
  | r :: rs, pre, hg, hf => by
    simp only [altE, List.length_cons]
    have h1 := altE_abs f g A M rs (pre ++ [r]) (fun x hx => hg x (by simp [hx])) (fun p q x hx => by
      have := hf (r :: p) q x (by simp [hx])
      simpa using this)
    have h2 : (g r * f (pre ++ rs)).natAbs ≤ A * M := by
      rw [Int.natAbs_mul]
      refine Nat.mul_le_mul (hg r (by simp)) ?_
      have := hf [] rs r rfl
      simpa using this
    have h3 := Int.natAbs_sub_le (g r * f (pre ++ rs)) (altE f g (pre ++ [r]) rs)
    rw [Nat.add_mul]; omega

/-- the size of a determinant -/
theorem D_size (A n : Nat) : ∀ (J : List Nat) (rs : List Row), J.length = rs.length → rs.length ≤ n → (∀ r ∈ rs, ∀ j ∈ J, (r j).natAbs ≤ A) → (D J rs).natAbs ≤ (n * A) ^ J.length
  | [], rs, h, _, _ => by simp [D]
  | j :: J, rs, h, hn, hA => by
    have := altE_abs (D J) (fun r => r j) A ((n * A) ^ J.length) rs [] (fun r hr => hA r hr j (by simp)) (fun p q r e => by
      subst e
      refine D_size A n J ([] ++ (p ++ q)) (by simp at h ⊢; omega) (by simp at hn ⊢; omega) (fun x hx k hk => hA x ?_ k (by simp [hk]))
      simp at hx ⊢
      rcases hx with hx | hx
      · exact .inl hx
      · exact .inr (.inr hx))
    refine Nat.le_trans this ?_
    rw [List.length_cons, Nat.pow_succ, ← Nat.mul_assoc, Nat.mul_comm ((n * A) ^ J.length)]
    exact Nat.mul_le_mul_right _ (Nat.mul_le_mul_right _ hn)

end K51

set_option maxHeartbeats 200000
/-! Bounds for all minors of a part of a matrix, and what the steps of an elimination do to them. -/
namespace K51
abbrev Mx := Nat → Nat → Int

theorem nodup_len (s : Nat) : ∀ (n : Nat) (l : List Nat), l.Nodup → (∀ x ∈ l, s ≤ x ∧ x < s + n) → l.length ≤ n
  | 0, l, _, h => by
    cases l with
    | nil => simp
    | cons x r =>
      have := h x (by simp)
      omega
  | n + 1, l, nd, h => by
    by_cases hm : s + n ∈ l
    · have e := List.length_erase_of_mem hm
      have := nodup_len s n (l.erase (s + n)) (nd.erase _) (fun x hx => by
        have hx' := (List.Nodup.mem_erase_iff nd).mp hx
        have := h x hx'.2
        have := hx'.1
        omega)
      omega
    · have := nodup_len s n l nd (fun x hx => by
        have a := h x hx
        have : x ≠ s + n := fun e => hm (e ▸ hx)
        omega)
      omega

def Sel (s m : Nat) (I : List Nat) : Prop := I.Nodup ∧ ∀ i ∈ I, s ≤ i ∧ i < m
/-- all minors of the rows s .. m - 1 and columns c .. w - 1, weighed -/
def MB (K s m c w : Nat) (G : Mx) : Prop := ∀ I J : List Nat, I.length = J.length → I ≠ [] → Sel s m I → Sel c w J → 2 ^ (I.length - 1) * (D J (I.map G)).natAbs ≤ K

theorem Sel.sub {s m s' m' : Nat} {I : List Nat} (h : Sel s' m' I) (h1 : s ≤ s') (h2 : m' ≤ m) : Sel s m I := ⟨h.1, fun i hi => by have := h.2 i hi; omega⟩
theorem Sel.len {s m : Nat} {I : List Nat} (h : Sel s m I) : I.length ≤ m - s := nodup_len s (m - s) I h.1 fun x hx => by have := h.2 x hx; omega
theorem Sel.cons {s m i : Nat} {I : List Nat} (h : Sel s m I) (hi : i ∉ I) (h1 : s ≤ i) (h2 : i < m) : Sel s m (i :: I) := ⟨List.nodup_cons.mpr ⟨hi, h.1⟩, fun x hx => by
  rcases List.mem_cons.mp hx with rfl | hx
  · exact ⟨h1, h2⟩
  · exact h.2 x hx⟩
theorem Sel.one {s m i : Nat} (h1 : s ≤ i) (h2 : i < m) : Sel s m [i] := ⟨by simp, fun x hx => by simp at hx; omega⟩
theorem Sel.parts {s m : Nat} {p q : List Nat} {i : Nat} (h : Sel s m (p ++ i :: q)) : Sel s m (p ++ q) ∧ i ∉ p ++ q ∧ s ≤ i ∧ i < m := by
  obtain ⟨nd, hm⟩ := h
  have e : (p ++ i :: q).Perm (i :: (p ++ q)) := List.perm_middle
  have nd' := e.nodup_iff.mp nd
  refine ⟨⟨(List.nodup_cons.mp nd').2, fun x hx => hm x ?_⟩, (List.nodup_cons.mp nd').1, hm i (by simp)⟩
  simp at hx ⊢
  rcases hx with hx | hx
  · exact .inl hx
  · exact .inr (.inr hx)
theorem Sel.put {s m : Nat} {p q : List Nat} {i z : Nat} (h : Sel s m (p ++ i :: q)) (hz : z ∉ p ++ q) (h1 : s ≤ z) (h2 : z < m) : Sel s m (p ++ z :: q) := by
  have a := (h.parts.1.cons hz h1 h2)
  have e : (p ++ z :: q).Perm (z :: (p ++ q)) := List.perm_middle
  refine ⟨e.nodup_iff.mpr a.1, fun x hx => a.2 x (e.mem_iff.mp hx)⟩

section
variable {K K' s m c w : Nat} {G : Mx}
theorem MB.mono (h : MB K s m c w G) (hk : K ≤ K') : MB K' s m c w G := fun I J a b d e => Nat.le_trans (h I J a b d e) hk
theorem MB.sub {s' m' c' w' : Nat} (h : MB K s m c w G) (h1 : s ≤ s') (h2 : m' ≤ m) (h3 : c ≤ c') (h4 : w' ≤ w) : MB K s' m' c' w' G := fun I J a b d e => h I J a b (d.sub h1 h2) (e.sub h3 h4)
theorem MB.entry (h : MB K s m c w G) {i j : Nat} (h1 : s ≤ i) (h2 : i < m) (h3 : c ≤ j) (h4 : j < w) : (G i j).natAbs ≤ K := by
  have := h [i] [j] rfl (by simp) (.one h1 h2) (.one h3 h4)
  simpa [D, altE] using this
theorem MB.abs (h : MB K s m c w G) {I J : List Nat} (e : I.length = J.length) (n : I ≠ []) (a : Sel s m I) (b : Sel c w J) : (D J (I.map G)).natAbs ≤ K := by
  have := h I J e n a b
  refine Nat.le_trans ?_ this
  exact Nat.le_mul_of_pos_left _ (Nat.pow_pos (by decide))
theorem MB.T (h : MB K s m c w G) : MB K c w s m (fun j i => G i j) := fun I J a b d e => by
  have n : J ≠ [] := fun z => by subst z; simp at a; exact b a
  have := h J I a.symm n e d
  rw [D_T G I J a.symm] at this
  rw [a]
  exact this
theorem MB.congr {G' : Mx} (h : MB K s m c w G) (e : ∀ i j, s ≤ i → i < m → c ≤ j → j < w → G' i j = G i j) : MB K s m c w G' := fun I J a b d f => by
  have hD : ∀ (J : List Nat), (∀ j ∈ J, c ≤ j ∧ j < w) → ∀ I : List Nat, (∀ i ∈ I, s ≤ i ∧ i < m) → D J (I.map G') = D J (I.map G) := by
    intro J
    induction J with
    | nil => intro _ _ _; rfl
    | cons j J ih =>
      intro hJ I hI
      have : ∀ (I pre : List Nat), (∀ i ∈ pre, s ≤ i ∧ i < m) → (∀ i ∈ I, s ≤ i ∧ i < m) → altE (D J) (fun r => r j) (pre.map G') (I.map G') = altE (D J) (fun r => r j) (pre.map G) (I.map G) := by
        intro I
        induction I with
        | nil => intro _ _ _; rfl
        | cons i I ih2 =>
          intro pre hp hI
          simp only [List.map_cons, altE]
          have e1 : D J (pre.map G' ++ I.map G') = D J (pre.map G ++ I.map G) := by
            rw [← List.map_append, ← List.map_append]
            refine ih (fun k hk => hJ k (by simp [hk])) _ fun x hx => ?_
            rcases List.mem_append.mp hx with hx | hx
            · exact hp x hx
            · exact hI x (by simp [hx])
          have e2 := ih2 (pre ++ [i]) (fun x hx => by
            rcases List.mem_append.mp hx with hx | hx
            · exact hp x hx
            · simp at hx; subst hx; exact hI _ (by simp)) (fun x hx => hI x (by simp [hx]))
          rw [List.map_append, List.map_append] at e2
          have e3 : G' i j = G i j := by
            have a1 := hI i (by simp)
            have a2 := hJ j (by simp)
            exact e i j a1.1 a1.2 a2.1 a2.2
          rw [e1, e3]
          exact congrArg _ e2
      exact this I [] (by simp) hI
  rw [hD J f.2 I d.2]
  exact h I J a b d f

/-- rows renamed -/
theorem MB.rows (h : MB K s m c w G) (t : Nat → Nat) (ht : ∀ i, s ≤ i → i < m → s ≤ t i ∧ t i < m) (inj : ∀ i j, s ≤ i → i < m → s ≤ j → j < m → t i = t j → i = j) : MB K s m c w (fun i => G (t i)) := fun I J a b d e => by
  have := h (I.map t) J (by simpa using a) (by simpa using b) ⟨?_, fun i hi => ?_⟩ e
  · rw [List.map_map, List.length_map] at this
    exact this
  · have : ∀ I : List Nat, I.Nodup → (∀ i ∈ I, s ≤ i ∧ i < m) → (I.map t).Nodup := by
      intro I
      induction I with
      | nil => intro _ _; simp
      | cons x r ih =>
        intro nd hI
        have nd := List.nodup_cons.mp nd
        rw [List.map_cons, List.nodup_cons]
        refine ⟨fun hx => ?_, ih nd.2 fun i hi => hI i (by simp [hi])⟩
        obtain ⟨y, hy, e⟩ := List.mem_map.mp hx
        have a1 := hI y (by simp [hy])
        have a2 := hI x (by simp)
        have := inj y x a1.1 a1.2 a2.1 a2.2 e
        subst this
        exact nd.1 hy
    exact this I d.1 d.2
  · obtain ⟨y, hy, rfl⟩ := List.mem_map.mp hi
    exact ht y (d.2 y hy).1 (d.2 y hy).2

def swp (a b i : Nat) : Nat := if i = a then b else if i = b then a else i
theorem MB.swap (h : MB K s m c w G) {a b : Nat} (h1 : s ≤ a) (h2 : a < m) (h3 : s ≤ b) (h4 : b < m) : MB K s m c w (fun i => G (swp a b i)) :=
  h.rows (swp a b) (fun i _ _ => by unfold swp; repeat' split <;> try omega) (fun i j _ _ _ _ e => by
    unfold swp at e
    repeat' split at e <;> try omega)
theorem MB.swapC (h : MB K s m c w G) {a b : Nat} (h1 : c ≤ a) (h2 : a < w) (h3 : c ≤ b) (h4 : b < w) : MB K s m c w (fun i j => G i (swp a b j)) :=
  (h.T.swap h1 h2 h3 h4).T

/-- a row negated -/
theorem D_neg_row (J : List Nat) (p q : List Row) (r : Row) (h : J.length = p.length + q.length + 1) : D J (p ++ (fun k => - r k) :: q) = - D J (p ++ r :: q) := by
  have := D_lin J p q r r 2 h
  have e : (fun k => r k - 2 * r k) = (fun k => - r k) := funext fun k => by omega
  rw [e] at this
  omega
theorem MB.neg (h : MB K s m c w G) (a : Nat) : MB K s m c w (fun i j => if i = a then - G i j else G i j) := fun I J e n d f => by
  by_cases ha : a ∈ I
  · obtain ⟨p, q, rfl⟩ := List.append_of_mem ha
    have nd := d.parts.2.1
    have hp : ∀ l : List Nat, a ∉ l → l.map (fun i j => if i = a then - G i j else G i j) = l.map G := fun l hl => List.map_congr_left fun x hx => by
      have : x ≠ a := fun z => hl (z ▸ hx)
      funext j
      rw [if_neg this]
    have e1 : (p ++ a :: q).map (fun i j => if i = a then - G i j else G i j) = p.map G ++ (fun k => - G a k) :: q.map G := by
      rw [List.map_append, List.map_cons, hp p (fun z => nd (by simp [z])), hp q (fun z => nd (by simp [z]))]
      congr 2
      funext j
      rw [if_pos rfl]
    rw [e1, D_neg_row J _ _ _ (by simp at e ⊢; omega), Int.natAbs_neg]
    have := h _ J e n d f
    rwa [List.map_append, List.map_cons] at this
  · have e1 : I.map (fun i j => if i = a then - G i j else G i j) = I.map G := List.map_congr_left fun x hx => by
      have : x ≠ a := fun z => ha (z ▸ hx)
      funext j
      rw [if_neg this]
    rw [e1]
    exact h I J e n d f

/-- multiples of the row z (pivot at c0) taken off the others, what is left in column c0 at most tau halves of the pivot -/
theorem MB.phase (h : MB K s m c w G) {z c0 kap tau : Nat} (q : Nat → Int) (z1 : s ≤ z) (z2 : z < m) (c1 : c ≤ c0) (c2 : c0 < w) (hp : G z c0 ≠ 0)
    (hq : ∀ i, s ≤ i → i < m → i ≠ z → 2 * (G i c0 - q i * G z c0).natAbs ≤ tau * (G z c0).natAbs) (hk : m - s ≤ kap ∨ w - c ≤ kap) (ht : tau ≤ 2)
    (hK : 2 * K ≤ 2 * K') (hK2 : tau * kap * K ≤ 2 * K') : MB K' s m c w (fun i j => if i = z then G i j else G i j - q i * G z j) := fun I J e n d f => by
  by_cases ha : z ∈ I
  · obtain ⟨p, r, rfl⟩ := List.append_of_mem ha
    have nd := d.parts.2.1
    have hl : ∀ l : List Nat, z ∉ l → l.map (fun i j => if i = z then G i j else G i j - q i * G z j) = l.map (fun i j => G i j - q i * G z j) := fun l hl => List.map_congr_left fun x hx => by
      have : x ≠ z := fun y => hl (y ▸ hx)
      funext j
      rw [if_neg this]
    have e0 : J.length = p.length + r.length + 1 := by simp at e; omega
    have e1 : (p ++ z :: r).map (fun i j => if i = z then G i j else G i j - q i * G z j) = p.map (fun i j => G i j - q i * G z j) ++ G z :: r.map (fun i j => G i j - q i * G z j) := by
      rw [List.map_append, List.map_cons, hl p (fun y => nd (by simp [y])), hl r (fun y => nd (by simp [y]))]
      congr 2
      funext j
      rw [if_pos rfl]
    have e2 : (D J ((p ++ z :: r).map (fun i j => if i = z then G i j else G i j - q i * G z j))).natAbs = (D J ((p ++ z :: r).map G)).natAbs := by
      rw [e1, D_abs_head J _ _ _ (by simpa using e0), ← List.map_append]
      have a1 := D_take G J (G z) q (p ++ r) [G z] (by simp; omega)
      have a2 : rep G J (G z) q [G z] (p ++ r) = 0 := by
        have : ∀ (l : List Nat) (pre : List Row), J.length = pre.length + l.length + 1 → rep G J (G z) q (G z :: pre) l = 0 := by
          intro l
          induction l with
          | nil => intro _ _; rfl
          | cons x l ih =>
            intro pre hpre
            simp only [rep]
            have b1 := D_dup J [] pre (l.map G) (G z) (by simp at hpre ⊢; omega)
            simp only [List.nil_append] at b1
            rw [List.cons_append, b1, List.cons_append, ih (pre ++ [G x]) (by simp at hpre ⊢; omega)]
            simp
        exact this (p ++ r) [] (by simp; omega)
      rw [a2] at a1
      simp only [List.cons_append, List.nil_append, Int.sub_zero] at a1
      rw [a1, List.map_append, ← D_abs_head J (p.map G) (r.map G) (G z) (by simpa using e0), List.map_append, List.map_cons]
    rw [e2]
    have := h _ J e n d f
    omega
  · have e1 : I.map (fun i j => if i = z then G i j else G i j - q i * G z j) = I.map (fun i => fun j => G i j - q i * G z j) := List.map_congr_left fun x hx => by
      have : x ≠ z := fun y => ha (y ▸ hx)
      funext j
      rw [if_neg this]
    rw [e1]
    have st := D_phase G J c0 (G z) q I e.symm
    have hP : 1 ≤ (G z c0).natAbs := Nat.pos_of_ne_zero fun y => hp (Int.natAbs_eq_zero.mp y)
    -- the second part
    have r1 := rep_abs G J (G z) (fun i => G i c0 - q i * G z c0) (tau * (G z c0).natAbs / 2) (K / 2 ^ (I.length - 1)) I [] (fun i hi => by
        have := hq i (d.2 i hi).1 (d.2 i hi).2 (fun y => ha (y ▸ hi))
        omega) (fun p r i ei => by
        subst ei
        have nz : z ∉ p ++ r := fun y => ha (by
          simp at y ⊢
          rcases y with y | y
          · exact .inl y
          · exact .inr (.inr y))
        have := h (p ++ z :: r) J (by simpa using e) (by simp) (d.put nz z1 z2) f
        rw [List.nil_append, Nat.le_div_iff_mul_le (Nat.pow_pos (by decide)), Nat.mul_comm]
        rw [List.map_append, List.map_cons] at this
        simpa using this)
    have kl : I.length ≤ kap := by
      rcases hk with hk | hk
      · exact Nat.le_trans d.len hk
      · rw [e]; exact Nat.le_trans f.len hk
    have I0 : 1 ≤ I.length := by
      cases I with
      | nil => exact absurd rfl n
      | cons x r => simp
    generalize hX : (D J (I.map fun i => fun j => G i j - q i * G z j)).natAbs = X
    generalize hA : (D (c0 :: J) (G z :: I.map G)).natAbs = A
    generalize hPP : (G z c0).natAbs = P at *
    generalize hR : (rep G J (G z) (fun i => G i c0 - q i * G z c0) [] I).natAbs = R at *
    have tot : P * X ≤ A + R := by
      rw [← hPP, ← hX, ← Int.natAbs_mul, st, ← hA, ← hR]
      exact Int.natAbs_add_le _ _
    -- the weight
    obtain ⟨k, hkI⟩ : ∃ k, I.length = k + 1 := ⟨I.length - 1, by omega⟩
    rw [hkI] at r1 kl ⊢
    simp only [Nat.add_sub_cancel] at r1 ⊢
    have b1 : 2 ^ k * (K / 2 ^ k) ≤ K := Nat.mul_div_le _ _
    have b2 : 2 * (tau * P / 2) ≤ tau * P := Nat.mul_div_le _ _
    have c3 : 2 * (2 ^ k * R) ≤ (k + 1) * (tau * P * K) := by
      calc 2 * (2 ^ k * R) ≤ 2 * (2 ^ k * ((k + 1) * (tau * P / 2 * (K / 2 ^ k)))) := Nat.mul_le_mul_left _ (Nat.mul_le_mul_left _ r1)
        _ = (k + 1) * ((2 * (tau * P / 2)) * (2 ^ k * (K / 2 ^ k))) := by
          generalize 2 ^ k = u
          generalize K / u = v
          generalize tau * P / 2 = y
          simp only [Nat.mul_assoc, Nat.mul_comm, Nat.mul_left_comm]
        _ ≤ (k + 1) * (tau * P * K) := Nat.mul_le_mul_left _ (Nat.mul_le_mul b2 b1)
    by_cases hc : c0 ∈ J
    · have A0 : A = 0 := by
        rw [← hA]
        have := D_col_dup G c0 J (z :: I) (by simpa using e) hc
        rw [List.map_cons] at this
        rw [this]
        rfl
      have c4 : P * (2 * (2 ^ k * X)) ≤ P * (tau * kap * K) := by
        calc P * (2 * (2 ^ k * X)) = 2 * (2 ^ k * (P * X)) := by
              generalize 2 ^ k = u
              simp only [Nat.mul_assoc, Nat.mul_comm, Nat.mul_left_comm]
          _ ≤ 2 * (2 ^ k * R) := by
              refine Nat.mul_le_mul_left _ (Nat.mul_le_mul_left _ ?_)
              omega
          _ ≤ (k + 1) * (tau * P * K) := c3
          _ ≤ kap * (tau * P * K) := Nat.mul_le_mul_right _ kl
          _ = P * (tau * kap * K) := by simp only [Nat.mul_assoc, Nat.mul_comm, Nat.mul_left_comm]
      have := Nat.le_of_mul_le_mul_left c4 (by omega)
      omega
    · have hA2 : 2 * (2 ^ k * A) ≤ K := by
        have := h (z :: I) (c0 :: J) (by simpa using e) (by simp) (d.cons ha z1 z2) (f.cons hc c1 c2)
        rw [List.map_cons, List.length_cons, hkI, Nat.add_sub_cancel, hA, Nat.pow_succ, Nat.mul_comm (2 ^ k) 2, Nat.mul_assoc] at this
        exact this
      have kl2 : k + 2 ≤ kap := by
        have s1 := (d.cons ha z1 z2).len
        have s2 := (f.cons hc c1 c2).len
        simp only [List.length_cons] at s1 s2
        omega
      have c4 : P * (2 * (2 ^ k * X)) ≤ P * (K + (k + 1) * (tau * K)) := by
        calc P * (2 * (2 ^ k * X)) = 2 * (2 ^ k * (P * X)) := by
              generalize 2 ^ k = u
              simp only [Nat.mul_assoc, Nat.mul_comm, Nat.mul_left_comm]
          _ ≤ 2 * (2 ^ k * (A + R)) := Nat.mul_le_mul_left _ (Nat.mul_le_mul_left _ tot)
          _ = 2 * (2 ^ k * A) + 2 * (2 ^ k * R) := by rw [Nat.mul_add, Nat.mul_add]
          _ ≤ K + (k + 1) * (tau * P * K) := Nat.add_le_add hA2 c3
          _ ≤ P * K + (k + 1) * (tau * P * K) := Nat.add_le_add_right (Nat.le_mul_of_pos_left _ (by omega)) _
          _ = P * (K + (k + 1) * (tau * K)) := by
              rw [Nat.mul_add]
              simp only [Nat.mul_assoc, Nat.mul_comm, Nat.mul_left_comm]
      have c5 := Nat.le_of_mul_le_mul_left c4 (by omega)
      refine Nat.le_of_mul_le_mul_left (Nat.le_trans c5 ?_) (by decide : 0 < 2)
      -- 1 + (k + 1) tau ≤ max 2 (tau kap)
      rcases (show tau = 0 ∨ tau = 1 ∨ tau = 2 by omega) with rfl | rfl | rfl
      · simp; omega
      · refine Nat.le_trans ?_ hK2
        rw [Nat.one_mul, Nat.one_mul]
        calc K + (k + 1) * K = (k + 2) * K := by rw [show k + 2 = (k + 1) + 1 from rfl, Nat.add_mul (k + 1) 1, Nat.one_mul]; omega
          _ ≤ kap * K := Nat.mul_le_mul_right _ kl2
      · refine Nat.le_trans ?_ hK2
        calc K + (k + 1) * (2 * K) = (2 * k + 3) * K := by
              rw [Nat.add_mul, Nat.add_mul, Nat.mul_assoc 2 k K, Nat.one_mul, Nat.mul_left_comm k 2 K]; omega
          _ ≤ 2 * kap * K := Nat.mul_le_mul_right _ (by omega)
end
end K51

set_option maxHeartbeats 200000
/-! Matrices as lists of rows: single steps and what they do to the entries and to the vectors that all rows annihilate. -/
namespace K51
abbrev Mat := List (List Int)
def ent (M : Mat) (i j : Nat) : Int := (M.getD i []).getD j 0
/-- m rows of w items -/
def Rect (m w : Nat) (M : Mat) : Prop := M.length = m ∧ ∀ r ∈ M, r.length = w
def lessMul (r : List Int) (q : Int) (o : List Int) : List Int := List.zipWith (fun a b => a - q * b) r o
def near (a b : Int) : Int := if b < 0 then (2 * -a + -b).fdiv (2 * -b) else (2 * a + b).fdiv (2 * b)
def tk (M : Mat) (k : Nat) (q : Int) (z : Nat) : Mat := M.set k (lessMul (M.getD k []) q (M.getD z []))
def swp2 (M : Mat) (a b : Nat) : Mat := (M.set a (M.getD b [])).set b (M.getD a [])
def negR (M : Mat) (k : Nat) : Mat := M.set k ((M.getD k []).map fun x => - x)
/-- a multiple of column z taken off column k -/
def tkc (M : Mat) (k : Nat) (q : Int) (z : Nat) : Mat := M.map fun r => r.set k (r.getD k 0 - q * r.getD z 0)
def swpc (M : Mat) (a b : Nat) : Mat := M.map fun r => (r.set a (r.getD b 0)).set b (r.getD a 0)

theorem fdiv_pos_bounds (a : Int) {b : Int} (h : 0 < b) : b * a.fdiv b ≤ a ∧ a < b * a.fdiv b + b := by
  rw [Int.fdiv_eq_ediv_of_nonneg a (by omega)]
  have := Int.mul_ediv_add_emod a b
  have h1 := Int.emod_nonneg a (by omega : b ≠ 0)
  have h2 := Int.emod_lt_of_pos a h
  omega
theorem near_ok (a : Int) {b : Int} (h : b ≠ 0) : 2 * (a - near a b * b).natAbs ≤ b.natAbs := by
  unfold near
  split
  · rename_i hb
    have := fdiv_pos_bounds (2 * -a + -b) (show 0 < 2 * -b by omega)
    generalize (2 * -a + -b).fdiv (2 * -b) = q at this ⊢
    have e : 2 * -b * q = -(2 * (q * b)) := by grind
    rw [e] at this
    generalize q * b = u at this ⊢
    omega
  · have := fdiv_pos_bounds (2 * a + b) (show 0 < 2 * b by omega)
    generalize (2 * a + b).fdiv (2 * b) = q at this ⊢
    have e : 2 * b * q = 2 * (q * b) := by grind
    rw [e] at this
    generalize q * b = u at this ⊢
    omega
theorem near_zero (b : Int) (h : b ≠ 0) : near 0 b = 0 := by
  have := near_ok 0 h
  rcases Int.lt_trichotomy (near 0 b) 0 with q | q | q
  · have h1 : b.natAbs ≤ (near 0 b * b).natAbs := by
      rw [Int.natAbs_mul]
      exact Nat.le_mul_of_pos_left _ (by omega)
    omega
  · exact q
  · have h1 : b.natAbs ≤ (near 0 b * b).natAbs := by
      rw [Int.natAbs_mul]
      exact Nat.le_mul_of_pos_left _ (by omega)
    omega
theorem near_size (a : Int) {b : Int} (h : b ≠ 0) : (near a b).natAbs ≤ a.natAbs + 1 := by
  have h0 := near_ok a h
  have hb : 1 ≤ b.natAbs := by omega
  have h1 : (near a b).natAbs * b.natAbs = (near a b * b).natAbs := (Int.natAbs_mul _ _).symm
  -- 2 |q| |b| ≤ 2 |a| + |b|
  have h2 : 2 * ((near a b).natAbs * b.natAbs) ≤ 2 * a.natAbs + b.natAbs := by omega
  rcases Nat.lt_or_ge (a.natAbs + 1) (near a b).natAbs with hq | hq
  · exfalso
    have h3 : (a.natAbs + 2) * b.natAbs ≤ (near a b).natAbs * b.natAbs := Nat.mul_le_mul_right _ (by omega)
    rw [Nat.add_mul] at h3
    have h4 : a.natAbs ≤ a.natAbs * b.natAbs := Nat.le_mul_of_pos_right _ hb
    omega
  · exact hq

section
variable {m w : Nat} {M : Mat}
theorem Rect.row (h : Rect m w M) {i : Nat} (hi : i < m) : (M.getD i []).length = w := by
  have hl : i < M.length := by rw [h.1]; exact hi
  have e : M.getD i [] = M[i] := by simp [List.getD_eq_getElem?_getD, hl]
  rw [e]
  exact h.2 _ (List.getElem_mem hl)
theorem Rect.set (h : Rect m w M) {k : Nat} {r : List Int} (hr : r.length = w) : Rect m w (M.set k r) := ⟨by rw [List.length_set]; exact h.1, fun x hx => by
  rcases List.mem_or_eq_of_mem_set hx with hx | rfl
  · exact h.2 x hx
  · exact hr⟩
theorem lessMul_len {r o : List Int} {q : Int} (h : r.length = w) (h2 : o.length = w) : (lessMul r q o).length = w := by
  unfold lessMul
  rw [List.length_zipWith, h, h2]; exact Nat.min_self _
theorem Rect.tk (h : Rect m w M) {k z : Nat} {q : Int} (hk : k < m) (hz : z < m) : Rect m w (tk M k q z) := h.set (lessMul_len (h.row hk) (h.row hz))
theorem Rect.swp2 (h : Rect m w M) {a b : Nat} (ha : a < m) (hb : b < m) : Rect m w (swp2 M a b) := (h.set (h.row hb)).set (h.row ha)
theorem Rect.negR (h : Rect m w M) {k : Nat} (hk : k < m) : Rect m w (negR M k) := h.set (by rw [List.length_map]; exact h.row hk)
theorem Rect.tkc (h : Rect m w M) {k z : Nat} {q : Int} : Rect m w (tkc M k q z) := ⟨by unfold K51.tkc; rw [List.length_map]; exact h.1, fun r hr => by
  obtain ⟨x, hx, rfl⟩ := List.mem_map.mp hr
  rw [List.length_set]
  exact h.2 x hx⟩
theorem Rect.swpc (h : Rect m w M) {a b : Nat} : Rect m w (swpc M a b) := ⟨by unfold K51.swpc; rw [List.length_map]; exact h.1, fun r hr => by
  obtain ⟨x, hx, rfl⟩ := List.mem_map.mp hr
  rw [List.length_set, List.length_set]
  exact h.2 x hx⟩

theorem ent_set (M : Mat) (k : Nat) (r : List Int) (i j : Nat) (hk : k < M.length) : ent (M.set k r) i j = if i = k then r.getD j 0 else ent M i j := by
  unfold ent
  by_cases h : i = k
  · subst h
    rw [if_pos rfl]
    simp [List.getD_eq_getElem?_getD, hk]
  · rw [if_neg h]
    simp [List.getD_eq_getElem?_getD, List.getElem?_set_ne (Ne.symm h)]
theorem getD_lessMul {r o : List Int} {q : Int} (j : Nat) (h : r.length = o.length) : (lessMul r q o).getD j 0 = r.getD j 0 - q * o.getD j 0 := by
  unfold lessMul
  simp only [List.getD_eq_getElem?_getD, List.getElem?_zipWith]
  by_cases hj : j < r.length
  · rw [List.getElem?_eq_getElem hj, List.getElem?_eq_getElem (by omega)]
    rfl
  · rw [List.getElem?_eq_none (by omega), List.getElem?_eq_none (by omega)]
    simp
theorem ent_tk (h : Rect m w M) {k z : Nat} {q : Int} (hk : k < m) (hz : z < m) (i j : Nat) : ent (tk M k q z) i j = if i = k then ent M k j - q * ent M z j else ent M i j := by
  unfold tk
  rw [ent_set _ _ _ _ _ (by rw [h.1]; exact hk), getD_lessMul _ (by rw [h.row hk, h.row hz])]
  rfl
theorem getD_set (M : Mat) (k : Nat) (r : List Int) (i : Nat) (hk : k < M.length) : (M.set k r).getD i [] = if i = k then r else M.getD i [] := by
  by_cases h : i = k
  · subst h
    rw [if_pos rfl]
    simp [List.getD_eq_getElem?_getD, hk]
  · rw [if_neg h]
    simp [List.getD_eq_getElem?_getD, List.getElem?_set_ne (Ne.symm h)]
theorem getD_swp2 (M : Mat) {a b : Nat} (ha : a < M.length) (hb : b < M.length) (i : Nat) : (swp2 M a b).getD i [] = M.getD (swp a b i) [] := by
  unfold swp2
  rw [getD_set _ _ _ _ (by rw [List.length_set]; exact hb), getD_set _ _ _ _ ha]
  unfold swp
  by_cases h1 : i = b
  · rw [if_pos h1]
    by_cases h2 : i = a
    · rw [if_pos h2, h2.symm.trans h1]
    · rw [if_neg h2, if_pos h1]
  · rw [if_neg h1]
    by_cases h2 : i = a
    · rw [if_pos h2, if_pos h2]
    · rw [if_neg h2, if_neg h2, if_neg h1]
theorem ent_swp2 (h : Rect m w M) {a b : Nat} (ha : a < m) (hb : b < m) (i j : Nat) : ent (swp2 M a b) i j = ent M (swp a b i) j := by
  unfold ent
  rw [getD_swp2 M (by rw [h.1]; exact ha) (by rw [h.1]; exact hb)]
theorem ent_negR (h : Rect m w M) {k : Nat} (hk : k < m) (i j : Nat) : ent (negR M k) i j = if i = k then - ent M k j else ent M i j := by
  unfold negR
  rw [ent_set _ _ _ _ _ (by rw [h.1]; exact hk)]
  have : ((M.getD k []).map fun x => - x).getD j 0 = - ent M k j := by
    unfold ent
    simp only [List.getD_eq_getElem?_getD, List.getElem?_map]
    cases (M[k]?.getD [])[j]? <;> simp
  rw [this]
theorem getD_map (M : Mat) (f : List Int → List Int) (i : Nat) (hi : i < M.length) : (M.map f).getD i [] = f (M.getD i []) := by
  simp [List.getD_eq_getElem?_getD, hi]
theorem ent_out (h : Rect m w M) {i j : Nat} (hij : m ≤ i ∨ w ≤ j) : ent M i j = 0 := by
  unfold ent
  rcases Nat.lt_or_ge i m with hi | hi
  · have := h.row hi
    rcases hij with h1 | h1
    · omega
    · simp [List.getD_eq_getElem?_getD] at this ⊢
      rw [List.getElem?_eq_none (by omega)]
      rfl
  · have : M.getD i [] = [] := by
      simp only [List.getD_eq_getElem?_getD]
      rw [List.getElem?_eq_none (by rw [h.1]; exact hi)]
      rfl
    rw [this]
    rfl
theorem getD_setI (r : List Int) (k : Nat) (x : Int) (j : Nat) (hk : k < r.length) : (r.set k x).getD j 0 = if j = k then x else r.getD j 0 := by
  by_cases h : j = k
  · subst h
    rw [if_pos rfl]
    simp [List.getD_eq_getElem?_getD, hk]
  · rw [if_neg h]
    simp [List.getD_eq_getElem?_getD, List.getElem?_set_ne (Ne.symm h)]
theorem ent_tkc (h : Rect m w M) {k z : Nat} {q : Int} (hk : k < w) (i j : Nat) (hi : i < m) : ent (tkc M k q z) i j = if j = k then ent M i k - q * ent M i z else ent M i j := by
  unfold ent tkc
  rw [getD_map _ _ _ (by rw [h.1]; exact hi), getD_setI _ _ _ _ (by rw [h.row hi]; exact hk)]
theorem ent_swpc (h : Rect m w M) {a b : Nat} (ha : a < w) (hb : b < w) (i j : Nat) (hi : i < m) : ent (swpc M a b) i j = ent M i (swp a b j) := by
  unfold ent swpc
  rw [getD_map _ _ _ (by rw [h.1]; exact hi), getD_setI _ _ _ _ (by rw [List.length_set, h.row hi]; exact hb), getD_setI _ _ _ _ (by rw [h.row hi]; exact ha)]
  unfold swp
  by_cases h1 : j = b
  · rw [if_pos h1]
    by_cases h2 : j = a
    · rw [if_pos h2, h2.symm.trans h1]
    · rw [if_neg h2, if_pos h1]
  · rw [if_neg h1]
    by_cases h2 : j = a
    · rw [if_pos h2, if_pos h2]
    · rw [if_neg h2, if_neg h2, if_neg h1]
end

/-! ### vectors -/
abbrev Vec := Nat → Rat
def rdot : List Int → Vec → Rat
  | [], _ => 0
  | x :: r, v => (x : Rat) * v 0 + rdot r (fun j => v (j + 1))
theorem rdot_lessMul : ∀ (r o : List Int) (q : Int) (v : Vec), r.length = o.length → rdot (lessMul r q o) v = rdot r v - (q : Rat) * rdot o v
  | [], [], q, v, _ => by
    simp only [lessMul, rdot, List.zipWith_nil_left]
    grind
  | [], _ :: _, _, _, h => by simp at h
  | _ :: _, [], _, _, h => by simp at h
  | a :: r, b :: o, q, v, h => by
    have ih := rdot_lessMul r o q (fun j => v (j + 1)) (by simpa using h)
    unfold lessMul at ih ⊢
    simp only [List.zipWith_cons_cons, rdot]
    rw [ih]
    grind
theorem rdot_neg : ∀ (r : List Int) (v : Vec), rdot (r.map fun x => - x) v = - rdot r v
  | [], v => by simp [rdot]
  | a :: r, v => by
    simp only [List.map_cons, rdot]
    rw [rdot_neg r]
    grind
/-- all rows annihilate v -/
def Ker (M : Mat) (v : Vec) : Prop := ∀ i, i < M.length → rdot (M.getD i []) v = 0
section
variable {m w : Nat} {M : Mat} {v : Vec}
theorem Ker.tk (h : Rect m w M) {k z : Nat} {q : Int} (hk : k < m) (hz : z < m) (hn : k ≠ z) : Ker (tk M k q z) v ↔ Ker M v := by
  have hl : (K51.tk M k q z).length = M.length := by unfold K51.tk; rw [List.length_set]
  have key : ∀ i, rdot ((K51.tk M k q z).getD i []) v = if i = k then rdot (M.getD k []) v - (q : Rat) * rdot (M.getD z []) v else rdot (M.getD i []) v := by
    intro i
    unfold K51.tk
    rw [getD_set _ _ _ _ (by rw [h.1]; exact hk)]
    split
    · rw [rdot_lessMul _ _ _ _ (by rw [h.row hk, h.row hz])]
    · rfl
  constructor
  · intro a i hi
    by_cases e : i = k
    · subst e
      have a1 := a i (by rw [hl]; exact hi)
      have a2 := a z (by rw [hl, h.1]; exact hz)
      rw [key, if_pos rfl] at a1
      rw [key, if_neg (Ne.symm hn)] at a2
      rw [a2] at a1
      grind
    · have := a i (by rw [hl]; exact hi)
      rwa [key, if_neg e] at this
  · intro a i hi
    rw [hl] at hi
    rw [key]
    split
    · rw [a k (by rw [h.1]; exact hk), a z (by rw [h.1]; exact hz)]
      grind
    · exact a i hi
theorem Ker.swp2 (h : Rect m w M) {a b : Nat} (ha : a < m) (hb : b < m) : Ker (swp2 M a b) v ↔ Ker M v := by
  have hl : (K51.swp2 M a b).length = M.length := by unfold K51.swp2; rw [List.length_set, List.length_set]
  have hs : ∀ i, i < m → swp a b i < m := fun i hi => by unfold swp; repeat' split <;> try omega
  have ss : ∀ i, swp a b (swp a b i) = i := fun i => by unfold swp; repeat' split <;> try omega
  have key : ∀ i, (K51.swp2 M a b).getD i [] = M.getD (swp a b i) [] := getD_swp2 M (by rw [h.1]; exact ha) (by rw [h.1]; exact hb)
  constructor
  · intro q i hi
    have := q (swp a b i) (by rw [hl, h.1]; exact hs i (by rw [← h.1]; exact hi))
    rwa [key, ss] at this
  · intro q i hi
    rw [key]
    exact q _ (by rw [h.1]; exact hs i (by rw [← h.1, ← hl]; exact hi))
theorem Ker.negR (h : Rect m w M) {k : Nat} (hk : k < m) : Ker (negR M k) v ↔ Ker M v := by
  have hl : (K51.negR M k).length = M.length := by unfold K51.negR; rw [List.length_set]
  have key : ∀ i, rdot ((K51.negR M k).getD i []) v = if i = k then - rdot (M.getD k []) v else rdot (M.getD i []) v := by
    intro i
    unfold K51.negR
    rw [getD_set _ _ _ _ (by rw [h.1]; exact hk)]
    split
    · rw [rdot_neg]
    · rfl
  constructor
  · intro a i hi
    have := a i (by rw [hl]; exact hi)
    rw [key] at this
    split at this
    · rename_i e; subst e; grind
    · exact this
  · intro a i hi
    rw [key]
    split
    · rw [a k (by rw [h.1]; exact hk)]; grind
    · exact a i (by rw [← hl]; exact hi)
end
end K51

set_option maxHeartbeats 200000
/-! One column brought to a pivot with zeros below it (cleared_below): what a run needs and what it leaves. -/
namespace K51
def passTo (c z : Nat) (M : Mat) : Nat → Mat
  | 0 => M
  | n + 1 => if ent (passTo c z M n) (z + 1 + n) c ≠ 0 then tk (passTo c z M n) (z + 1 + n) (near (ent (passTo c z M n) (z + 1 + n) c) (ent (passTo c z M n) z c)) z else passTo c z M n
/-- the first row with the smallest item other than 0 of a column -/
def SmSpec (M : Mat) (c s : Nat) : Option Nat → Prop
  | none => ∀ k, s ≤ k → k < M.length → ent M k c = 0
  | some b => s ≤ b ∧ b < M.length ∧ ent M b c ≠ 0 ∧ ∀ k, s ≤ k → k < M.length → ent M k c ≠ 0 → (ent M b c).natAbs ≤ (ent M k c).natAbs
def Bd (e : Nat) (M : Mat) : Prop := ∀ i j, (ent M i j).natAbs < 2 ^ e
/-- the loop of cleared_below as a predicate: what must hold so that it runs and ends with Post -/
def CBOk (e c z : Nat) : Nat → Mat → (Bool → Mat → Prop) → Prop
  | 0, _, _ => False
  | n + 1, M, Post => (SmSpec M c z none → Post false M) ∧ ∀ b, SmSpec M c z (some b) →
      (∀ t, z + t < M.length → Bd e (passTo c z (swp2 M z b) t)) ∧
      (SmSpec (passTo c z (swp2 M z b) (M.length - 1 - z)) c (z + 1) none → Post true (passTo c z (swp2 M z b) (M.length - 1 - z))) ∧
      ∀ b', SmSpec (passTo c z (swp2 M z b) (M.length - 1 - z)) c (z + 1) (some b') → CBOk e c z n (passTo c z (swp2 M z b) (M.length - 1 - z)) Post

theorem CBOk.mono {e c z : Nat} {P Q : Bool → Mat → Prop} (hPQ : ∀ b M, P b M → Q b M) : ∀ {n : Nat} {M : Mat}, CBOk e c z n M P → CBOk e c z n M Q
  | 0, _, h => h
  | n + 1, M, ⟨h1, h2⟩ => ⟨fun a => hPQ _ _ (h1 a), fun b hb => ⟨(h2 b hb).1, fun a => hPQ _ _ ((h2 b hb).2.1 a), fun b' hb' => CBOk.mono hPQ ((h2 b hb).2.2 b' hb')⟩⟩

section
variable {m w : Nat} {M : Mat} {c z : Nat}
theorem passTo_len : ∀ n, (passTo c z M n).length = M.length
  | 0 => rfl
  | n + 1 => by
    simp only [passTo]
    split
    · unfold tk; rw [List.length_set]; exact passTo_len n
    · exact passTo_len n
theorem passTo_rect (h : Rect m w M) (hz : z < m) : ∀ n, z + n < m → Rect m w (passTo c z M n)
  | 0, _ => h
  | n + 1, hn => by
    simp only [passTo]
    split
    · exact (passTo_rect h hz n (by omega)).tk (by omega) hz
    · exact passTo_rect h hz n (by omega)
theorem passTo_ent (h : Rect m w M) (hz : z < m) (hp : ent M z c ≠ 0) : ∀ n, z + n < m → ∀ i j, ent (passTo c z M n) i j = if z < i ∧ i ≤ z + n then ent M i j - near (ent M i c) (ent M z c) * ent M z j else ent M i j
  | 0, _, i, j => by
    rw [if_neg (by omega)]; rfl
  | n + 1, hn, i, j => by
    have ih := passTo_ent h hz hp n (by omega)
    have eC : ent (passTo c z M n) (z + 1 + n) c = ent M (z + 1 + n) c := by rw [ih, if_neg (by omega)]
    have eZ : ∀ j, ent (passTo c z M n) z j = ent M z j := fun j => by rw [ih, if_neg (by omega)]
    have eJ : ∀ j, ent (passTo c z M n) (z + 1 + n) j = ent M (z + 1 + n) j := fun j => by rw [ih, if_neg (by omega)]
    simp only [passTo]
    split
    · rw [ent_tk (passTo_rect h hz n (by omega)) (by omega) hz, eC, eZ, eZ, eJ]
      by_cases e : i = z + 1 + n
      · subst e
        rw [if_pos rfl, if_pos (by omega)]
      · rw [if_neg e, ih]
        by_cases e2 : z < i ∧ i ≤ z + n
        · rw [if_pos e2, if_pos (by omega)]
        · rw [if_neg e2, if_neg (by omega)]
    · rename_i hc
      have hc : ent M (z + 1 + n) c = 0 := by
        rw [eC] at hc
        exact Decidable.not_not.mp hc
      rw [ih]
      by_cases e : i = z + 1 + n
      · subst e
        rw [if_neg (by omega), if_pos (by omega), hc, near_zero _ hp]
        omega
      · by_cases e2 : z < i ∧ i ≤ z + n
        · rw [if_pos e2, if_pos (by omega)]
        · rw [if_neg e2, if_neg (by omega)]
theorem passTo_ker (h : Rect m w M) (hz : z < m) {v : Vec} : ∀ n, z + n < m → (Ker (passTo c z M n) v ↔ Ker M v)
  | 0, _ => Iff.rfl
  | n + 1, hn => by
    have ih := passTo_ker h hz (v := v) n (by omega)
    simp only [passTo]
    split
    · exact (Ker.tk (passTo_rect h hz n (by omega)) (by omega) hz (by omega)).trans ih
    · exact ih
theorem passTo_above : ∀ n i, i ≤ z → (passTo c z M n).getD i [] = M.getD i []
  | 0, _, _ => rfl
  | n + 1, i, hi => by
    simp only [passTo]
    split
    · unfold tk
      rw [List.getD_eq_getElem?_getD, List.getElem?_set_ne (by omega), ← List.getD_eq_getElem?_getD]
      exact passTo_above n i hi
    · exact passTo_above n i hi

structure CBPre (m w wA c z h k x e : Nat) (M : Mat) : Prop where
  rect : Rect m w M
  hz : z < m
  hc : c < wA
  hw : wA ≤ w
  mb : MB (2 ^ k) z m c wA (ent M)
  small : (∀ i, z ≤ i → i < m → ent M i c = 0) ∨ ∃ i, z ≤ i ∧ i < m ∧ ent M i c ≠ 0 ∧ (ent M i c).natAbs < 2 ^ h
  aug : ∀ i, z ≤ i → i < m → ∀ j, wA ≤ j → (ent M i j).natAbs < 2 ^ x
  left : ∀ i, z ≤ i → i < m → ∀ j, j < c → ent M i j = 0
  above : ∀ i, i < z → ∀ j, (ent M i j).natAbs < 2 ^ e
structure CBPost (m w wA c z h k x : Nat) (M₀ : Mat) (b : Bool) (M : Mat) : Prop where
  rect : Rect m w M
  ker : ∀ v, Ker M v ↔ Ker M₀ v
  above : ∀ i, i < z → M.getD i [] = M₀.getD i []
  no : b = false → M = M₀ ∧ ∀ i, z ≤ i → i < m → ent M i c = 0
  mb : b = true → MB (2 ^ k) z m c wA (ent M)
  aug : b = true → ∀ i, z ≤ i → i < m → ∀ j, wA ≤ j → (ent M i j).natAbs < 2 ^ x
  left : ∀ i, z ≤ i → i < m → ∀ j, j < c → ent M i j = 0
  piv : b = true → ent M z c ≠ 0 ∧ (ent M z c).natAbs < 2 ^ h
  below : b = true → ∀ i, z < i → i < m → ent M i c = 0

theorem pow_lt {a b : Nat} (h : a < b) : 2 ^ a < 2 ^ b := Nat.pow_lt_pow_right (by decide) h
theorem pow_le {a b : Nat} (h : a ≤ b) : 2 ^ a ≤ 2 ^ b := Nat.pow_le_pow_right (by decide) h

/-- the size of a row behind a step -/
theorem step_size {a b u v : Int} {k x : Nat} (ha : a.natAbs ≤ 2 ^ k) (hb : b ≠ 0) (hu : u.natAbs < 2 ^ x) (hv : v.natAbs < 2 ^ x) : (u - near a b * v).natAbs < 2 ^ (x + (k + 2)) := by
  have h1 := near_size a hb
  have h2 : (near a b * v).natAbs ≤ (2 ^ k + 1) * (2 ^ x - 1) := by
    rw [Int.natAbs_mul]
    exact Nat.mul_le_mul (by omega) (by omega)
  have h3 := Int.natAbs_sub_le u (near a b * v)
  have px : 1 ≤ 2 ^ x := Nat.pow_pos (by decide)
  have pk : 1 ≤ 2 ^ k := Nat.pow_pos (by decide)
  have h4 : (2 ^ k + 1) * (2 ^ x - 1) + (2 ^ k + 1) = (2 ^ k + 1) * 2 ^ x := by
    rw [← Nat.mul_succ]
    congr 1
    omega
  have h5 : 2 ^ (x + (k + 2)) = 4 * 2 ^ k * 2 ^ x := by
    rw [Nat.pow_add, Nat.pow_add, Nat.mul_comm]
    congr 1
    omega
  rw [h5]
  have h6 : (2 ^ k + 1) * 2 ^ x ≤ (2 * 2 ^ k) * 2 ^ x := Nat.mul_le_mul_right _ (by omega)
  have h7 : (2 * 2 ^ k) * 2 ^ x + 1 * 2 ^ x ≤ 4 * 2 ^ k * 2 ^ x := by
    rw [← Nat.add_mul]
    exact Nat.mul_le_mul_right _ (by omega)
  omega

/-- THE RUN of cleared_below -/
theorem cb_ok {m w wA c z kf xf e lc kap : Nat} (hkap : m - z ≤ kap ∨ wA - c ≤ kap) (hlc : kap ≤ 2 ^ (lc + 1)) (he : kf < e) (he2 : w ≤ wA ∨ xf ≤ e) : ∀ (h k x : Nat) (M : Mat), CBPre m w wA c z h k x e M → k + lc * h ≤ kf → x + (kf + 2) * h ≤ xf →
    CBOk e c z (h + 1) M (CBPost m w wA c z h kf xf M) := by
  intro h
  induction h with
  | zero =>
    intro k x M P hk hx
    have hl : M.length = m := P.rect.1
    have z0 : ∀ i, z ≤ i → i < m → ent M i c = 0 := by
      rcases P.small with q | ⟨i, _, _, q1, q2⟩
      · exact q
      · exfalso; simp at q2; exact q1 q2
    refine ⟨fun s => ?_, fun b s => ?_⟩
    · exact { rect := P.rect, ker := fun _ => Iff.rfl, above := fun _ _ => rfl, no := fun _ => ⟨rfl, z0⟩, mb := fun q => Bool.noConfusion q, aug := fun q => Bool.noConfusion q, left := P.left, piv := fun q => Bool.noConfusion q, below := fun q => Bool.noConfusion q }
    · exact absurd (z0 b s.1 (by rw [← hl]; exact s.2.1)) s.2.2.1
  | succ h ih =>
    intro k x M P hk hx
    have hl : M.length = m := P.rect.1
    refine ⟨fun s => ?_, fun b s => ?_⟩
    · exact { rect := P.rect, ker := fun _ => Iff.rfl, above := fun _ _ => rfl, no := fun _ => ⟨rfl, fun i h1 h2 => s i h1 (by rw [hl]; exact h2)⟩, mb := fun q => Bool.noConfusion q, aug := fun q => Bool.noConfusion q, left := P.left, piv := fun q => Bool.noConfusion q, below := fun q => Bool.noConfusion q }
    · obtain ⟨b1, b2, b3, b4⟩ := s
      rw [hl] at b2 b4 ⊢
      have hz := P.hz
      -- the pivot is small
      have psm : (ent M b c).natAbs < 2 ^ (h + 1) := by
        rcases P.small with q | ⟨i, q1, q2, q3, q4⟩
        · exact absurd (q b b1 b2) b3
        · exact Nat.lt_of_le_of_lt (b4 i q1 q2 q3) q4
      have R1 : Rect m w (swp2 M z b) := P.rect.swp2 hz b2
      have E1 : ∀ i j, ent (swp2 M z b) i j = ent M (swp z b i) j := ent_swp2 P.rect hz b2
      have sz : swp z b z = b := by unfold swp; rw [if_pos rfl]
      have sr : ∀ i, z ≤ i → i < m → z ≤ swp z b i ∧ swp z b i < m := fun i _ _ => by unfold swp; repeat' split <;> try omega
      have sa : ∀ i, i < z → swp z b i = i := fun i _ => by unfold swp; rw [if_neg (by omega), if_neg (by omega)]
      have p0 : ent (swp2 M z b) z c ≠ 0 := by rw [E1, sz]; exact b3
      have mb1 : MB (2 ^ k) z m c wA (ent (swp2 M z b)) := (P.mb.swap (Nat.le_refl _) hz b1 b2).congr fun i j _ _ _ _ => E1 i j
      -- the pass
      have hn : z + (m - 1 - z) < m := by omega
      have R2 := passTo_rect (c := c) R1 hz (m - 1 - z) hn
      have E2 := passTo_ent R1 hz p0 (m - 1 - z) hn
      have E2' : ∀ i j, z ≤ i → i < m → ent (passTo c z (swp2 M z b) (m - 1 - z)) i j = if i = z then ent (swp2 M z b) i j else ent (swp2 M z b) i j - near (ent (swp2 M z b) i c) (ent (swp2 M z b) z c) * ent (swp2 M z b) z j := fun i j h1 h2 => by
        rw [E2]
        by_cases q : i = z
        · rw [if_pos q, if_neg (by omega)]
        · rw [if_neg q, if_pos (by omega)]
      have hkf : k + lc ≤ kf := by
        have : lc * (h + 1) = lc * h + lc := Nat.mul_succ _ _
        omega
      have hxf : x + (kf + 2) ≤ xf := by
        have : (kf + 2) * (h + 1) = (kf + 2) * h + (kf + 2) := Nat.mul_succ _ _
        omega
      have mb2 : MB (2 ^ (k + lc)) z m c wA (ent (passTo c z (swp2 M z b) (m - 1 - z))) := by
        refine (mb1.phase (K' := 2 ^ (k + lc)) (z := z) (c0 := c) (kap := kap) (tau := 1) (fun i => near (ent (swp2 M z b) i c) (ent (swp2 M z b) z c)) (Nat.le_refl _) hz (Nat.le_refl _) P.hc p0 (fun i _ _ _ => ?_) hkap (by decide) ?_ ?_).congr fun i j h1 h2 _ _ => E2' i j h1 h2
        · rw [Nat.one_mul]; exact near_ok _ p0
        · exact Nat.mul_le_mul_left _ (pow_le (by omega))
        · rw [Nat.one_mul, Nat.pow_add]
          calc kap * 2 ^ k ≤ 2 ^ (lc + 1) * 2 ^ k := Nat.mul_le_mul_right _ hlc
            _ = 2 * (2 ^ k * 2 ^ lc) := by rw [Nat.pow_succ, Nat.mul_comm (2 ^ lc) 2, Nat.mul_assoc, Nat.mul_comm (2 ^ lc)]
      have aug1 : ∀ i, z ≤ i → i < m → ∀ j, wA ≤ j → (ent (swp2 M z b) i j).natAbs < 2 ^ x := fun i h1 h2 j hj => by
        rw [E1]
        exact P.aug _ (sr i h1 h2).1 (sr i h1 h2).2 j hj
      have left1 : ∀ i, z ≤ i → i < m → ∀ j, j < c → ent (swp2 M z b) i j = 0 := fun i h1 h2 j hj => by
        rw [E1]
        exact P.left _ (sr i h1 h2).1 (sr i h1 h2).2 j hj
      have col1 : ∀ i, z ≤ i → i < m → (ent (swp2 M z b) i c).natAbs ≤ 2 ^ kf := fun i h1 h2 =>
        Nat.le_trans (mb1.entry h1 h2 (Nat.le_refl _) P.hc) (pow_le (by omega))
      have aug2 : ∀ i, z ≤ i → i < m → ∀ j, wA ≤ j → (ent (passTo c z (swp2 M z b) (m - 1 - z)) i j).natAbs < 2 ^ (x + (kf + 2)) := fun i h1 h2 j hj => by
        rw [E2' i j h1 h2]
        split
        · exact Nat.lt_of_lt_of_le (aug1 i h1 h2 j hj) (pow_le (by omega))
        · exact step_size (col1 i h1 h2) p0 (aug1 i h1 h2 j hj) (aug1 z (Nat.le_refl _) hz j hj)
      have left2 : ∀ i, z ≤ i → i < m → ∀ j, j < c → ent (passTo c z (swp2 M z b) (m - 1 - z)) i j = 0 := fun i h1 h2 j hj => by
        rw [E2' i j h1 h2]
        split
        · exact left1 i h1 h2 j hj
        · rw [left1 i h1 h2 j hj, left1 z (Nat.le_refl _) hz j hj]; simp
      have above1 : ∀ i, i < z → (swp2 M z b).getD i [] = M.getD i [] := fun i hi => by
        rw [getD_swp2 M (by rw [hl]; exact hz) (by rw [hl]; exact b2), sa i hi]
      have above2 : ∀ i, i < z → (passTo c z (swp2 M z b) (m - 1 - z)).getD i [] = M.getD i [] := fun i hi => by
        rw [passTo_above _ _ (by omega), above1 i hi]
      have ker2 : ∀ v, Ker (passTo c z (swp2 M z b) (m - 1 - z)) v ↔ Ker M v := fun v => (passTo_ker R1 hz _ hn).trans (Ker.swp2 P.rect hz b2)
      have piv2 : ent (passTo c z (swp2 M z b) (m - 1 - z)) z c = ent M b c := by rw [E2' z c (Nat.le_refl _) hz, if_pos rfl, E1, sz]
      have low2 : ∀ i, z < i → i < m → 2 * (ent (passTo c z (swp2 M z b) (m - 1 - z)) i c).natAbs ≤ (ent M b c).natAbs := fun i h1 h2 => by
        rw [E2' i c (by omega) h2, if_neg (by omega)]
        have := near_ok (ent (swp2 M z b) i c) p0
        rw [show ent (swp2 M z b) z c = ent M b c by rw [E1, sz]] at this ⊢
        exact this
      refine ⟨fun t ht i j => ?_, fun s2 => ?_, fun b' s2 => ?_⟩
      · -- the sizes on the way
        rw [passTo_ent R1 hz p0 t ht]
        have big2 : ∀ (y : Nat), y ≤ 2 ^ kf → y < 2 ^ e := fun y hy => Nat.lt_of_le_of_lt hy (pow_lt he)
        rcases Nat.lt_or_ge i m with him | him
        case inr =>
          have q1 : ∀ j, ent (swp2 M z b) i j = 0 := fun j => ent_out R1 (.inl him)
          rw [if_neg (by omega), q1]
          exact Nat.pow_pos (by decide)
        rcases Nat.lt_or_ge i z with hiz | hiz
        · rw [if_neg (by omega), E1, sa i hiz]
          exact P.above i hiz j
        · rcases Nat.lt_or_ge j c with hj | hj
          · rw [left1 i hiz him j hj, left1 z (Nat.le_refl _) hz j hj]
            simp
            exact Nat.pow_pos (by decide)
          · rcases Nat.lt_or_ge j wA with hj2 | hj2
            · split
              · have := mb2.entry hiz him hj hj2
                rw [E2' i j hiz him, if_neg (by omega)] at this
                exact big2 _ (Nat.le_trans this (pow_le (by omega)))
              · exact big2 _ (Nat.le_trans (mb1.entry hiz him hj hj2) (pow_le (by omega)))
            · rcases he2 with hww | he2
              · have q1 : ∀ i, ent (swp2 M z b) i j = 0 := fun i => ent_out R1 (.inr (by omega))
                rw [q1, q1]
                simp
                exact Nat.pow_pos (by decide)
              have big : ∀ (y : Nat), y < 2 ^ (x + (kf + 2)) → y < 2 ^ e := fun y hy => Nat.lt_of_lt_of_le hy (pow_le (by omega))
              split
              · have := aug2 i hiz him j hj2
                rw [E2' i j hiz him, if_neg (by omega)] at this
                exact big _ this
              · exact big _ (Nat.lt_of_lt_of_le (aug1 i hiz him j hj2) (pow_le (by omega)))
      · refine { rect := R2, ker := ker2, above := above2, no := fun q => Bool.noConfusion q, mb := fun _ => mb2.mono (pow_le hkf), aug := fun _ i h1 h2 j hj => Nat.lt_of_lt_of_le (aug2 i h1 h2 j hj) (pow_le hxf), left := left2, piv := fun _ => by rw [piv2]; exact ⟨b3, psm⟩, below := fun _ i h1 h2 => s2 i (by omega) (by rw [R2.1]; exact h2) }
      · obtain ⟨s1, s3, s4, s5⟩ := s2
        rw [R2.1] at s3
        have P2 : CBPre m w wA c z h (k + lc) (x + (kf + 2)) e (passTo c z (swp2 M z b) (m - 1 - z)) :=
          { rect := R2, hz := hz, hc := P.hc, hw := P.hw, mb := mb2, aug := aug2, left := left2
            small := .inr ⟨b', by omega, s3, s4, by
              have := low2 b' (by omega) s3
              rw [Nat.pow_succ] at psm
              omega⟩
            above := fun i hi j => by
              have := P.above i hi j
              unfold ent at this ⊢
              rw [above2 i hi]
              exact this }
        refine (ih _ _ _ P2 ?_ ?_).mono fun bb MM Q => ?_
        · have : lc * (h + 1) = lc * h + lc := Nat.mul_succ _ _
          omega
        · have : (kf + 2) * (h + 1) = (kf + 2) * h + (kf + 2) := Nat.mul_succ _ _
          omega
        · exact { rect := Q.rect, ker := fun v => (Q.ker v).trans (ker2 v), above := fun i hi => (Q.above i hi).trans (above2 i hi)
                  no := fun q => by
                    obtain ⟨q1, q2⟩ := Q.no q
                    exact absurd (by rw [q1] at q2; exact q2 b' (by omega) s3) s4
                  mb := Q.mb, aug := Q.aug, left := Q.left, piv := fun q => ⟨(Q.piv q).1, Nat.lt_trans (Q.piv q).2 (pow_lt (by omega))⟩, below := Q.below }
end
end K51

set_option maxHeartbeats 200000
/-! The Hermite form (formed): what a run needs and what it leaves. -/
namespace K51
def nrm (M : Mat) (z c : Nat) : Mat := if ent M z c < 0 then negR M z else M
def redTo (c z : Nat) (M : Mat) : Nat → Mat
  | 0 => M
  | n + 1 => if (ent (redTo c z M n) n c).fdiv (ent (redTo c z M n) z c) ≠ 0 then tk (redTo c z M n) n ((ent (redTo c z M n) n c).fdiv (ent (redTo c z M n) z c)) z else redTo c z M n
/-- the loop of formed as a predicate -/
def FOk (e : Nat) : Nat → Nat → Nat → Mat → (Nat → Mat → Prop) → Prop
  | 0, _, s, M, Post => Post s M
  | r + 1, c, s, M, Post => if s = M.length then FOk e r (c + 1) s M Post else
      ∃ n, CBOk e c s n M fun b M' => if b = true then (M'.length = M.length ∧ ent M' s c ≠ 0 ∧ (∀ t, t ≤ s → Bd e (redTo c s (nrm M' s c) t)) ∧ FOk e r (c + 1) (s + 1) (redTo c s (nrm M' s c) s) Post) else FOk e r (c + 1) s M' Post

section
variable {m w : Nat} {M : Mat} {c z : Nat}
theorem nrm_rect (h : Rect m w M) (hz : z < m) : Rect m w (nrm M z c) := by
  unfold nrm
  split
  · exact h.negR hz
  · exact h
theorem nrm_ent (h : Rect m w M) (hz : z < m) (i j : Nat) : ent (nrm M z c) i j = if i = z ∧ ent M z c < 0 then - ent M z j else ent M i j := by
  unfold nrm
  split
  · rename_i hn
    rw [ent_negR h hz]
    by_cases e : i = z
    · rw [if_pos e, if_pos ⟨e, hn⟩]
    · rw [if_neg e, if_neg (fun q => e q.1)]
  · rename_i hn
    rw [if_neg (fun q => hn q.2)]
theorem nrm_ker (h : Rect m w M) (hz : z < m) {v : Vec} : Ker (nrm M z c) v ↔ Ker M v := by
  unfold nrm
  split
  · exact Ker.negR h hz
  · exact Iff.rfl
theorem nrm_abs (h : Rect m w M) (hz : z < m) (i j : Nat) : (ent (nrm M z c) i j).natAbs = (ent M i j).natAbs := by
  rw [nrm_ent h hz]
  split
  · rename_i q; rw [Int.natAbs_neg, q.1]
  · rfl
theorem nrm_mb {K s m' c' w' : Nat} (h : Rect m w M) (hz : z < m) (H : MB K s m' c' w' (ent M)) : MB K s m' c' w' (ent (nrm M z c)) := by
  by_cases hn : ent M z c < 0
  · refine (H.neg z).congr fun i j _ _ _ _ => ?_
    rw [nrm_ent h hz]
    by_cases e : i = z
    · rw [if_pos ⟨e, hn⟩, if_pos e, e]
    · rw [if_neg (fun q => e q.1), if_neg e]
  · refine H.congr fun i j _ _ _ _ => ?_
    rw [nrm_ent h hz, if_neg (fun q => hn q.2)]
theorem redTo_rect (h : Rect m w M) (hz : z < m) : ∀ n, n ≤ z → Rect m w (redTo c z M n)
  | 0, _ => h
  | n + 1, hn => by
    simp only [redTo]
    split
    · exact (redTo_rect h hz n (by omega)).tk (by omega) hz
    · exact redTo_rect h hz n (by omega)
theorem redTo_ent (h : Rect m w M) (hz : z < m) : ∀ n, n ≤ z → ∀ i j, ent (redTo c z M n) i j = if i < n then ent M i j - (ent M i c).fdiv (ent M z c) * ent M z j else ent M i j
  | 0, _, i, j => by
    rw [if_neg (by omega)]; rfl
  | n + 1, hn, i, j => by
    have ih := redTo_ent h hz n (by omega)
    have eN : ∀ j, ent (redTo c z M n) n j = ent M n j := fun j => by rw [ih, if_neg (by omega)]
    have eZ : ∀ j, ent (redTo c z M n) z j = ent M z j := fun j => by rw [ih, if_neg (by omega)]
    simp only [redTo]
    rw [eN, eZ]
    split
    · rw [ent_tk (redTo_rect h hz n (by omega)) (by omega) hz, eN, eZ]
      by_cases e : i = n
      · subst e
        rw [if_pos rfl, if_pos (by omega)]
      · rw [if_neg e, ih]
        by_cases e2 : i < n
        · rw [if_pos e2, if_pos (by omega)]
        · rw [if_neg e2, if_neg (by omega)]
    · rename_i hc
      have hc : (ent M n c).fdiv (ent M z c) = 0 := Decidable.not_not.mp hc
      rw [ih]
      by_cases e : i = n
      · subst e
        rw [if_neg (by omega), if_pos (by omega), hc]
        simp
      · by_cases e2 : i < n
        · rw [if_pos e2, if_pos (by omega)]
        · rw [if_neg e2, if_neg (by omega)]
theorem redTo_ker (h : Rect m w M) (hz : z < m) {v : Vec} : ∀ n, n ≤ z → (Ker (redTo c z M n) v ↔ Ker M v)
  | 0, _ => Iff.rfl
  | n + 1, hn => by
    have ih := redTo_ker h hz (v := v) n (by omega)
    simp only [redTo]
    split
    · exact (Ker.tk (redTo_rect h hz n (by omega)) (by omega) hz (by omega)).trans ih
    · exact ih

/-- one more row -/
theorem MB.add {K A kap s c w : Nat} {G : Mx} (h : MB K 0 s c w G) (hl : ∀ j, c ≤ j → j < w → (G s j).natAbs ≤ A) (hk : s + 1 ≤ kap) (hK : 1 ≤ K) (hA : 1 ≤ A) : MB (2 * kap * (A * K)) 0 (s + 1) c w G := fun I J e n d f => by
  have big : K ≤ 2 * kap * (A * K) := by
    calc K = 1 * (1 * K) := by omega
      _ ≤ 2 * kap * (A * K) := Nat.mul_le_mul (by omega) (Nat.mul_le_mul_right _ hA)
  by_cases hs : s ∈ I
  · obtain ⟨p, q, rfl⟩ := List.append_of_mem hs
    obtain ⟨d1, nd, _⟩ := d.parts
    have d2 : Sel 0 s (p ++ q) := ⟨d1.1, fun x hx => by
      have := d1.2 x hx
      have : x ≠ s := fun z => nd (z ▸ hx)
      omega⟩
    have e0 : J.length = p.length + q.length + 1 := by simp at e; omega
    rw [List.map_append, List.map_cons, D_abs_head J _ _ _ (by simpa using e0), ← List.map_append, D_row J _ _ (by simpa using e0)]
    obtain ⟨k, hk2⟩ : ∃ k, (p ++ s :: q).length = k + 1 := ⟨p.length + q.length, by simp; omega⟩
    rw [hk2, Nat.add_sub_cancel]
    have lk : J.length = k + 1 := by rw [← e]; exact hk2
    have kk : k + 1 ≤ kap := by
      have := d.len
      rw [hk2] at this
      omega
    have lpq : (p ++ q).length = k := by simp at hk2 ⊢; omega
    have b := altE_abs (fun J' => D J' ((p ++ q).map G)) (fun j => G s j) A (2 * K / 2 ^ k) J [] (fun j hj => hl j (f.2 j hj).1 (f.2 j hj).2) (fun p' q' j ej => by
      subst ej
      rw [Nat.le_div_iff_mul_le (Nat.pow_pos (by decide)), Nat.mul_comm, List.nil_append]
      have lpq' : (p ++ q).length = (p' ++ q').length := by simp at lk lpq ⊢; omega
      cases hpq : p ++ q with
      | nil =>
        have k0 : k = 0 := by rw [← lpq, hpq]; rfl
        have : p' ++ q' = [] := by
          rw [hpq] at lpq'
          exact List.eq_nil_of_length_eq_zero (by simpa using lpq'.symm)
        rw [this, k0]
        simp [D]
        omega
      | cons x r =>
        have := h (p ++ q) (p' ++ q') lpq' (by rw [hpq]; simp) d2 f.parts.1
        rw [lpq, hpq] at this
        obtain ⟨k', rfl⟩ : ∃ k', k = k' + 1 := ⟨k - 1, by rw [hpq] at lpq; simp at lpq; omega⟩
        rw [Nat.add_sub_cancel] at this
        rw [Nat.pow_succ, Nat.mul_comm (2 ^ k') 2, Nat.mul_assoc]
        omega)
    calc 2 ^ k * (altE (fun J' => D J' ((p ++ q).map G)) (fun j => G s j) [] J).natAbs ≤ 2 ^ k * (J.length * (A * (2 * K / 2 ^ k))) := Nat.mul_le_mul_left _ b
      _ = J.length * (A * (2 ^ k * (2 * K / 2 ^ k))) := by
          generalize 2 ^ k = u
          generalize 2 * K / u = v
          simp only [Nat.mul_assoc, Nat.mul_comm, Nat.mul_left_comm]
      _ ≤ kap * (A * (2 * K)) := by
          refine Nat.mul_le_mul (by rw [lk]; exact kk) (Nat.mul_le_mul_left _ (Nat.mul_div_le _ _))
      _ = 2 * kap * (A * K) := by simp only [Nat.mul_assoc, Nat.mul_comm, Nat.mul_left_comm]
  · have d2 : Sel 0 s I := ⟨d.1, fun x hx => by
      have := d.2 x hx
      have : x ≠ s := fun z => hs (z ▸ hx)
      omega⟩
    exact Nat.le_trans (h I J e n d2 f) big

/-- the numbers of a run: entries of the first part ahead of the pivot s, minors of what is left, behind parts, rows that are done -/
structure FNum (m w wide e : Nat) (lc kp HE KE XE PE : Nat → Nat) : Prop where
  lcc : ∀ s, s < m → s < wide → (m - s ≤ 2 ^ (lc s + 1) ∨ wide - s ≤ 2 ^ (lc s + 1))
  kk : ∀ s, KE s + lc s * HE s ≤ KE (s + 1)
  hh : ∀ s, KE (s + 1) + 1 ≤ HE (s + 1)
  xx : ∀ s, XE s + (KE (s + 1) + 2) * HE s + (PE s + 2) ≤ XE (s + 1)
  pp : ∀ s, s < m → s < wide → PE s + KE (s + 1) + (2 * kp s + 1) ≤ PE (s + 1)
  kpp : ∀ s, s < m → s < wide → s + 1 ≤ 2 ^ kp s
  ke : ∀ s, s ≤ m → s ≤ wide → KE s < e
  xe : w ≤ wide ∨ ∀ s, s ≤ m → s ≤ wide → XE s ≤ e
  pe : ∀ s, s ≤ m → s ≤ wide → PE s < e

structure FInv (m w wide : Nat) (HE KE XE PE : Nat → Nat) (M₀ : Mat) (c s : Nat) (pc : Nat → Nat) (M : Mat) : Prop where
  rect : Rect m w M
  ker : ∀ v, Ker M v ↔ Ker M₀ v
  sm : s ≤ m
  sc : s ≤ c
  cw : c ≤ wide
  ww : wide ≤ w
  stair : ∀ i, i < s → pc i < c ∧ 0 < ent M i (pc i) ∧ ∀ j, j < pc i → ent M i j = 0
  incr : ∀ i i', i < i' → i' < s → pc i < pc i'
  low : ∀ i, s ≤ i → i < m → ∀ j, j < c → ent M i j = 0
  act : MB (2 ^ KE s) s m c wide (ent M)
  sml : ∀ i, s ≤ i → i < m → ∀ j, j < wide → (ent M i j).natAbs < 2 ^ HE s
  aug : ∀ i j, wide ≤ j → (ent M i j).natAbs < 2 ^ XE s
  done : MB (2 ^ PE s) 0 s 0 wide (ent M)
  first : 0 < s → (ent M 0 (pc 0)).natAbs < 2 ^ HE 0

theorem form_ok {m w wide e : Nat} {lc kp HE KE XE PE : Nat → Nat} (N : FNum m w wide e lc kp HE KE XE PE) {M₀ : Mat} : ∀ (r c s : Nat) (pc : Nat → Nat) (M : Mat), c + r = wide → FInv m w wide HE KE XE PE M₀ c s pc M →
    FOk e r c s M fun s' M' => ∃ pc', FInv m w wide HE KE XE PE M₀ wide s' pc' M' := by
  intro r
  induction r with
  | zero =>
    intro c s pc M hc I
    have : c = wide := by omega
    subst this
    exact ⟨pc, I⟩
  | succ r ih =>
    intro c s pc M hc I
    have hcw : c < wide := by omega
    have hl : M.length = m := I.rect.1
    show (if s = M.length then _ else _)
    split
    · rename_i hs
      rw [hl] at hs
      refine ih (c + 1) s pc M (by omega) { I with sc := by have := I.sc; omega, cw := by omega, stair := fun i hi => ⟨by have := (I.stair i hi).1; omega, (I.stair i hi).2⟩, low := fun i h1 h2 => by omega, act := I.act.sub (Nat.le_refl _) (Nat.le_refl _) (by omega) (Nat.le_refl _) }
    · rename_i hs
      have hsm : s < m := by
        have := I.sm
        rw [hl] at hs
        omega
      have hsw : s < wide := by have := I.sc; omega
      have hs1 : s + 1 ≤ wide := hsw
      refine ⟨HE s + 1, ?_⟩
      have aboveB : ∀ i, i < s → ∀ j, (ent M i j).natAbs < 2 ^ e := fun i hi j => by
        rcases Nat.lt_or_ge j wide with hj | hj
        · exact Nat.lt_of_le_of_lt (I.done.entry (Nat.zero_le _) hi (Nat.zero_le _) hj) (pow_lt (N.pe s I.sm (by omega)))
        · rcases N.xe with hww | hxe
          · rw [ent_out I.rect (.inr (by omega))]; exact Nat.pow_pos (by decide)
          · exact Nat.lt_of_lt_of_le (I.aug i j hj) (pow_le (hxe s I.sm (by omega)))
      have P : CBPre m w wide c s (HE s) (KE s) (XE s) e M :=
        { rect := I.rect, hz := hsm, hc := hcw, hw := I.ww, mb := I.act
          small := by
            by_cases q : ∃ i, s ≤ i ∧ i < m ∧ ent M i c ≠ 0
            · obtain ⟨i, q1, q2, q3⟩ := q
              exact .inr ⟨i, q1, q2, q3, I.sml i q1 q2 c hcw⟩
            · refine .inl fun i h1 h2 => ?_
              rcases Decidable.em (ent M i c = 0) with q2 | q2
              · exact q2
              · exact absurd ⟨i, h1, h2, q2⟩ q
          aug := fun i _ _ j hj => I.aug i j hj
          left := I.low
          above := aboveB }
      have hkap : m - s ≤ 2 ^ (lc s + 1) ∨ wide - c ≤ 2 ^ (lc s + 1) := by
        rcases N.lcc s hsm hsw with q | q
        · exact .inl q
        · refine .inr ?_
          have := I.sc
          omega
      have hk1 := N.kk s
      have hx1 := N.xx s
      refine (cb_ok (kf := KE (s + 1)) (xf := XE s + (KE (s + 1) + 2) * HE s) (e := e) hkap (Nat.le_refl _) (N.ke (s + 1) hsm hs1) (N.xe.imp id fun hxe => Nat.le_trans (by omega) (hxe (s + 1) hsm hs1)) (HE s) (KE s) (XE s) M P hk1 (Nat.le_refl _)).mono fun b M' Q => ?_
      have R' := Q.rect
      have entAbove : ∀ i, i < s → ∀ j, ent M' i j = ent M i j := fun i hi j => by unfold ent; rw [Q.above i hi]
      cases b with
      | false =>
        rw [if_neg Bool.false_ne_true]
        obtain ⟨q1, q2⟩ := Q.no rfl
        subst q1
        refine ih (c + 1) s pc M' (by omega) { I with sc := by have := I.sc; omega, cw := by omega, stair := fun i hi => ⟨by have := (I.stair i hi).1; omega, (I.stair i hi).2⟩, low := fun i h1 h2 j hj => ?_, act := I.act.sub (Nat.le_refl _) (Nat.le_refl _) (by omega) (Nat.le_refl _) }
        rcases Nat.lt_or_ge j c with hj2 | hj2
        · exact I.low i h1 h2 j hj2
        · have : j = c := by omega
          subst this
          exact q2 i h1 h2
      | true =>
        rw [if_pos rfl]
        have MB' := Q.mb rfl
        have aug' := Q.aug rfl
        obtain ⟨piv0, pivS⟩ := Q.piv rfl
        have bel := Q.below rfl
        -- the pivot above 0
        have RN : Rect m w (nrm M' s c) := nrm_rect R' hsm
        have EN := nrm_ent (c := c) R' hsm
        have AN := nrm_abs (c := c) R' hsm
        have entNs : ∀ i, i ≠ s → ∀ j, ent (nrm M' s c) i j = ent M' i j := fun i hi j => by rw [EN, if_neg (fun q => hi q.1)]
        have pp : 0 < ent (nrm M' s c) s c := by
          rw [EN]
          split
          · rename_i q; omega
          · rename_i q
            have : ¬ ent M' s c < 0 := fun z => q ⟨rfl, z⟩
            omega
        have zN : ∀ j, j < c → ent (nrm M' s c) s j = 0 := fun j hj => by
          have := AN s j
          rw [Q.left s (Nat.le_refl _) hsm j hj] at this
          simpa using this
        have leadA : ∀ j, 0 ≤ j → j < wide → (ent (nrm M' s c) s j).natAbs ≤ 2 ^ KE (s + 1) := fun j _ hj => by
          rcases Nat.lt_or_ge j c with hj2 | hj2
          · rw [zN j hj2]; simp
          · rw [AN]; exact MB'.entry (Nat.le_refl _) hsm hj2 hj
        have doneN : MB (2 ^ PE s) 0 s 0 wide (ent (nrm M' s c)) := I.done.congr fun i j _ h2 _ _ => by rw [entNs i (by omega), entAbove i h2]
        have kp1 := N.kpp s hsm hsw
        have addN : MB (2 ^ (PE s + KE (s + 1) + (kp s + 1))) 0 (s + 1) 0 wide (ent (nrm M' s c)) := by
          refine (doneN.add (A := 2 ^ KE (s + 1)) (kap := 2 ^ kp s) leadA kp1 (Nat.pow_pos (by decide)) (Nat.pow_pos (by decide))).mono ?_
          rw [Nat.pow_add, Nat.pow_add, Nat.mul_comm (2 ^ PE s), Nat.pow_succ, Nat.mul_comm (2 ^ kp s) 2, Nat.mul_comm (2 * 2 ^ kp s)]
          exact Nat.le_refl _
        -- the rows above reduced
        have RR := redTo_rect (c := c) RN hsm s (Nat.le_refl _)
        have ER := redTo_ent (c := c) RN hsm
        have doneR : MB (2 ^ PE (s + 1)) 0 (s + 1) 0 wide (ent (redTo c s (nrm M' s c) s)) := by
          refine ((addN.phase (K' := 2 ^ (PE s + KE (s + 1) + (2 * kp s + 1))) (z := s) (c0 := c) (kap := 2 ^ kp s) (tau := 2) (fun i => (ent (nrm M' s c) i c).fdiv (ent (nrm M' s c) s c)) (Nat.zero_le _) (Nat.lt_succ_self _) (Nat.zero_le _) hcw (by omega) (fun i _ _ _ => ?_) (.inl (by omega)) (by decide) ?_ ?_).congr fun i j h1 h2 _ _ => ?_).mono (pow_le (N.pp s hsm hsw))
          · have := fdiv_pos_bounds (ent (nrm M' s c) i c) pp
            rw [Int.mul_comm] at this
            generalize ((ent (nrm M' s c) i c).fdiv (ent (nrm M' s c) s c)) * ent (nrm M' s c) s c = u at this ⊢
            omega
          · exact Nat.mul_le_mul_left _ (pow_le (by omega))
          · have e16 : 2 ^ (PE s + KE (s + 1) + (2 * kp s + 1)) = 2 ^ (PE s + KE (s + 1) + (kp s + 1)) * 2 ^ kp s := by
              rw [← Nat.pow_add]
              congr 1
              omega
            rw [e16, Nat.mul_assoc, Nat.mul_comm (2 ^ kp s)]
            exact Nat.le_refl _
          · rw [ER s (Nat.le_refl _)]
            by_cases q : i = s
            · rw [if_pos q, if_neg (by omega)]
            · rw [if_neg q, if_pos (by omega)]
        have augN : ∀ i j, wide ≤ j → (ent (nrm M' s c) i j).natAbs < 2 ^ (XE s + (KE (s + 1) + 2) * HE s) := fun i j hj => by
          rw [AN]
          rcases Nat.lt_or_ge i s with hi | hi
          · rw [entAbove i hi]
            exact Nat.lt_of_lt_of_le (I.aug i j hj) (pow_le (by omega))
          · rcases Nat.lt_or_ge i m with hi2 | hi2
            · exact aug' i hi hi2 j hj
            · rw [ent_out R' (.inl hi2)]
              exact Nat.pow_pos (by decide)
        have augR : ∀ t, t ≤ s → ∀ i j, wide ≤ j → (ent (redTo c s (nrm M' s c) t) i j).natAbs < 2 ^ XE (s + 1) := fun t ht i j hj => by
          rw [ER t ht]
          split
          · rename_i hi
            -- u - q v
            have hq : ((ent (nrm M' s c) i c).fdiv (ent (nrm M' s c) s c)).natAbs ≤ 2 ^ PE s := by
              have b1 := fdiv_pos_bounds (ent (nrm M' s c) i c) pp
              have b2 : (ent (nrm M' s c) i c).natAbs ≤ 2 ^ PE s := doneN.entry (Nat.zero_le _) (by omega) (Nat.zero_le _) hcw
              generalize hqq : (ent (nrm M' s c) i c).fdiv (ent (nrm M' s c) s c) = q at b1 ⊢
              generalize ent (nrm M' s c) i c = a at b1 b2
              generalize ent (nrm M' s c) s c = p at b1 pp
              rcases (show q < 0 ∨ 0 ≤ q by omega) with q0 | q0
              · -- p q ≤ a < p q + p
                have : p * (q + 1) ≤ 1 * (q + 1) := Int.mul_le_mul_of_nonpos_right (by omega) (by omega)
                rw [Int.mul_add, Int.mul_one] at this
                omega
              · have : 1 * q ≤ p * q := Int.mul_le_mul_of_nonneg_right (by omega) q0
                omega
            have h1 := augN i j hj
            have h2 := augN s j hj
            generalize (ent (nrm M' s c) i c).fdiv (ent (nrm M' s c) s c) = q at hq ⊢
            generalize ent (nrm M' s c) i j = u at h1 ⊢
            generalize ent (nrm M' s c) s j = v at h2 ⊢
            have h3 := Int.natAbs_sub_le u (q * v)
            have h4 : (q * v).natAbs ≤ 2 ^ PE s * 2 ^ (XE s + (KE (s + 1) + 2) * HE s) := by
              rw [Int.natAbs_mul]
              exact Nat.mul_le_mul hq (Nat.le_of_lt h2)
            refine Nat.lt_of_lt_of_le ?_ (pow_le hx1)
            rw [Nat.pow_add _ _ (PE s + 2), Nat.pow_add _ (PE s) 2]
            generalize 2 ^ (XE s + (KE (s + 1) + 2) * HE s) = X at *
            have : 1 ≤ 2 ^ PE s := Nat.pow_pos (by decide)
            generalize 2 ^ PE s = Y at *
            have h5 : X * (Y * 2 ^ 2) = 4 * (Y * X) := by
              rw [Nat.mul_comm X, Nat.mul_right_comm, Nat.mul_comm (Y * X)]
            have h6 : 1 * X ≤ Y * X := Nat.mul_le_mul_right _ this
            omega
          · exact Nat.lt_of_lt_of_le (augN i j hj) (pow_le (by omega))
        have rowsR : ∀ t, t ≤ s → ∀ i, s ≤ i → ∀ j, ent (redTo c s (nrm M' s c) t) i j = ent (nrm M' s c) i j := fun t ht i hi j => by rw [ER t ht, if_neg (by omega)]
        have lowR : ∀ i, s + 1 ≤ i → i < m → ∀ j, j < c + 1 → ent (redTo c s (nrm M' s c) s) i j = 0 := fun i h1 h2 j hj => by
          rw [rowsR s (Nat.le_refl _) i (by omega), entNs i (by omega)]
          rcases Nat.lt_or_ge j c with hj2 | hj2
          · exact Q.left i (by omega) h2 j hj2
          · have : j = c := by omega
            subst this
            exact bel i (by omega) h2
        have actR : MB (2 ^ KE (s + 1)) (s + 1) m (c + 1) wide (ent (redTo c s (nrm M' s c) s)) :=
          (MB'.sub (by omega) (Nat.le_refl _) (by omega) (Nat.le_refl _)).congr fun i j h1 _ _ _ => by rw [rowsR s (Nat.le_refl _) i (by omega), entNs i (by omega)]
        -- entries above a pivot to the left of c stay
        have keepL : ∀ i, i < s → ∀ j, j < c → ent (redTo c s (nrm M' s c) s) i j = ent M i j := fun i hi j hj => by
          rw [ER s (Nat.le_refl _), if_pos hi, zN j hj, entNs i (by omega), entAbove i hi]
          simp
        refine ⟨by rw [R'.1, hl], piv0, fun t ht i j => ?_, ih (c + 1) (s + 1) (fun i => if i = s then c else pc i) _ (by omega) ?_⟩
        · rcases Nat.lt_or_ge j wide with hj | hj
          · rw [ER t ht]
            have pl : PE s + KE (s + 1) + (kp s + 1) ≤ PE (s + 1) := by have := N.pp s hsm hsw; omega
            rcases Nat.lt_or_ge i s with hi | hi
            · split
              · have := doneR.entry (i := i) (j := j) (Nat.zero_le _) (by omega) (Nat.zero_le _) hj
                rw [ER s (Nat.le_refl _), if_pos hi] at this
                exact Nat.lt_of_le_of_lt this (pow_lt (N.pe (s + 1) hsm hs1))
              · exact Nat.lt_of_le_of_lt (addN.entry (Nat.zero_le _) (by omega) (Nat.zero_le _) hj) (Nat.lt_of_le_of_lt (pow_le pl) (pow_lt (N.pe (s + 1) hsm hs1)))
            · rw [if_neg (by omega), AN]
              rcases Nat.lt_or_ge i m with hi2 | hi2
              · rcases Nat.lt_or_ge j c with hj2 | hj2
                · rw [Q.left i hi hi2 j hj2]; simp; exact Nat.pow_pos (by decide)
                · exact Nat.lt_of_le_of_lt (MB'.entry hi hi2 hj2 hj) (pow_lt (N.ke (s + 1) hsm hs1))
              · rw [ent_out R' (.inl hi2)]; exact Nat.pow_pos (by decide)
          · rcases N.xe with hww | hxe
            · rw [ent_out (redTo_rect RN hsm t ht) (.inr (by omega))]; exact Nat.pow_pos (by decide)
            · exact Nat.lt_of_lt_of_le (augR t ht i j hj) (pow_le (hxe (s + 1) hsm hs1))
        · exact
            { rect := RR
              ker := fun v => ((redTo_ker RN hsm s (Nat.le_refl _)).trans (nrm_ker R' hsm)).trans ((Q.ker v).trans (I.ker v))
              sm := hsm, sc := by have := I.sc; omega, cw := by omega, ww := I.ww
              stair := fun i hi => by
                by_cases e : i = s
                · subst e
                  simp only [if_true]
                  refine ⟨by omega, ?_, fun j hj => ?_⟩
                  · rw [rowsR i (Nat.le_refl _) i (Nat.le_refl _)]; exact pp
                  · rw [rowsR i (Nat.le_refl _) i (Nat.le_refl _)]; exact zN j hj
                · simp only [if_neg e]
                  have hi' : i < s := by omega
                  obtain ⟨a1, a2, a3⟩ := I.stair i hi'
                  refine ⟨by omega, ?_, fun j hj => ?_⟩
                  · rw [keepL i hi' _ a1]; exact a2
                  · rw [keepL i hi' j (by omega)]; exact a3 j hj
              incr := fun i i' h1 h2 => by
                have e1 : i ≠ s := by omega
                simp only [if_neg e1]
                by_cases e : i' = s
                · rw [if_pos e]; exact (I.stair i (by omega)).1
                · rw [if_neg e]; exact I.incr i i' h1 (by omega)
              low := lowR
              act := actR
              sml := fun i h1 h2 j hj => by
                rcases Nat.lt_or_ge j (c + 1) with hj2 | hj2
                · rw [lowR i h1 h2 j hj2]; simp; exact Nat.pow_pos (by decide)
                · exact Nat.lt_of_le_of_lt (actR.entry h1 h2 hj2 hj) (pow_lt (N.hh s))
              aug := fun i j hj => augR s (Nat.le_refl _) i j hj
              done := doneR
              first := fun _ => by
                by_cases e : 0 = s
                · simp only [if_pos e]
                  rw [rowsR s (Nat.le_refl _) 0 (by omega), AN]
                  subst e
                  exact pivS
                · simp only [if_neg e]
                  rw [keepL 0 (by omega) _ (I.stair 0 (by omega)).1]
                  exact I.first (by omega) }
end
end K51

set_option maxHeartbeats 200000
/-! The Smith form's steps: the matrix with its transformations on both sides. -/
namespace K51
/-- the grid, the rows' transformation, the columns' (columns kept as rows) -/
structure Wk where
  g : Mat
  l : Mat
  r : Mat
def vdot : Nat → Vec → Vec → Rat
  | 0, _, _ => 0
  | n + 1, a, b => vdot n a b + a n * b n
theorem vdot_upd (y a : Vec) (k : Nat) (x : Rat) : ∀ n, k < n → vdot n y (fun i => if i = k then x else a i) = vdot n y a + y k * (x - a k)
  | 0, h => by omega
  | n + 1, h => by
    simp only [vdot]
    by_cases e : n = k
    · subst e
      rw [if_pos rfl]
      have : ∀ m, m ≤ n → vdot m y (fun i => if i = n then x else a i) = vdot m y a := by
        intro m
        induction m with
        | zero => intro _; rfl
        | succ m ih =>
          intro hm
          simp only [vdot]
          rw [ih (by omega), if_neg (by omega)]
      rw [this n (Nat.le_refl _)]
      grind
    · rw [if_neg e, vdot_upd y a k x n (by omega)]
      grind
theorem vdot_updL (y a : Vec) (k : Nat) (x : Rat) : ∀ n, k < n → vdot n (fun i => if i = k then x else y i) a = vdot n y a + (x - y k) * a k
  | 0, h => by omega
  | n + 1, h => by
    simp only [vdot]
    by_cases e : n = k
    · subst e
      rw [if_pos rfl]
      have : ∀ m, m ≤ n → vdot m (fun i => if i = n then x else y i) a = vdot m y a := by
        intro m
        induction m with
        | zero => intro _; rfl
        | succ m ih =>
          intro hm
          simp only [vdot]
          rw [ih (by omega), if_neg (by omega)]
      rw [this n (Nat.le_refl _)]
      grind
    · rw [if_neg e, vdot_updL y a k x n (by omega)]
      grind
theorem vdot_congr {y a y' a' : Vec} : ∀ n, (∀ i, i < n → y i = y' i) → (∀ i, i < n → a i = a' i) → vdot n y a = vdot n y' a'
  | 0, _, _ => rfl
  | n + 1, h1, h2 => by
    simp only [vdot]
    rw [vdot_congr n (fun i hi => h1 i (by omega)) (fun i hi => h2 i (by omega)), h1 n (by omega), h2 n (by omega)]
theorem vdot_sub (y a b : Vec) (q : Rat) : ∀ n, vdot n y (fun i => a i - q * b i) = vdot n y a - q * vdot n y b
  | 0 => by simp only [vdot]; grind
  | n + 1 => by simp only [vdot]; rw [vdot_sub y a b q n]; grind
theorem vdot_zero (y : Vec) : ∀ n, vdot n y (fun _ => 0) = 0
  | 0 => rfl
  | n + 1 => by simp only [vdot]; rw [vdot_zero y n]; grind
theorem vdot_step (y a : Vec) (k z n : Nat) (q : Rat) (hk : k < n) (hz : z < n) : vdot n y (fun i => if i = k then a k - q * a z else a i) = vdot n (fun i => if i = z then y z - q * y k else y i) a := by
  rw [vdot_upd _ _ _ _ _ hk, vdot_updL _ _ _ _ _ hz]
  grind
theorem rdot_sub (q : Rat) : ∀ (r : List Int) (x y : Vec), rdot r (fun j => x j - q * y j) = rdot r x - q * rdot r y
  | [], _, _ => by simp only [rdot]; grind
  | a :: r, x, y => by
    simp only [rdot]
    rw [rdot_sub q r (fun j => x (j + 1)) (fun j => y (j + 1))]
    grind
theorem rdot_congr : ∀ (r : List Int) (x y : Vec), (∀ j, j < r.length → x j = y j) → rdot r x = rdot r y
  | [], _, _, _ => rfl
  | a :: r, x, y, h => by
    simp only [rdot]
    rw [h 0 (by simp), rdot_congr r (fun j => x (j + 1)) (fun j => y (j + 1)) (fun j hj => h (j + 1) (by simp; omega))]
theorem rdot_vdot : ∀ (r : List Int) (x : Vec), rdot r x = vdot r.length (fun j => (r.getD j 0 : Int)) x := by
  have : ∀ (n : Nat) (a b : Vec), vdot (n + 1) a b = a 0 * b 0 + vdot n (fun j => a (j + 1)) (fun j => b (j + 1)) := by
    intro n
    induction n with
    | zero => intro a b; simp only [vdot]; grind
    | succ n ih =>
      intro a b
      rw [vdot, ih, vdot]
      grind
  intro r
  induction r with
  | nil => intro x; rfl
  | cons a r ih =>
    intro x
    rw [List.length_cons, this, rdot, ih]
    rfl

/-- what B's rows give at x; row j of r as a vector -/
def bv (B : Mat) (x : Vec) : Vec := fun k => rdot (B.getD k []) x
def rv (r : Mat) (j : Nat) : Vec := fun c => (ent r j c : Rat)
/-- the three matrices belong together: g = l B r, and nothing is lost -/
structure WC (m w : Nat) (B : Mat) (W : Wk) : Prop where
  rg : Rect m w W.g
  rl : Rect m m W.l
  rr : Rect w w W.r
  eq : ∀ i j, i < m → j < w → (ent W.g i j : Rat) = rdot (W.l.getD i []) (bv B (rv W.r j))
  linj : ∀ v : Vec, Ker W.l v → ∀ k, k < m → v k = 0
  span : ∀ x : Vec, ∃ y : Vec, ∀ c, c < w → x c = vdot w y (fun j => (ent W.r j c : Rat))
  ind : ∀ y : Vec, (∀ j, j < w → vdot m y (fun i => (ent W.g i j : Rat)) = 0) → ∀ i, i < m → y i = 0

section
variable {m w : Nat} {B : Mat} {W : Wk}
/-- a row's multiple off another row -/
theorem WC.row (h : WC m w B W) {k z : Nat} {q : Int} (hk : k < m) (hz : z < m) (hn : k ≠ z) : WC m w B ⟨tk W.g k q z, tk W.l k q z, W.r⟩ where
  rg := h.rg.tk hk hz
  rl := h.rl.tk hk hz
  rr := h.rr
  eq := fun i j hi hj => by
    show (ent (tk W.g k q z) i j : Rat) = rdot ((tk W.l k q z).getD i []) _
    rw [ent_tk h.rg hk hz]
    unfold tk
    rw [getD_set _ _ _ _ (by rw [h.rl.1]; exact hk)]
    split
    · rw [rdot_lessMul _ _ _ _ (by rw [h.rl.row hk, h.rl.row hz]), ← h.eq k j hk hj, ← h.eq z j hz hj]
      grind
    · exact h.eq i j hi hj
  linj := fun v hv => h.linj v ((Ker.tk h.rl hk hz hn).mp hv)
  span := h.span
  ind := fun y hy => by
    have key : ∀ j, j < w → vdot m (fun i => if i = z then y z - (q : Rat) * y k else y i) (fun i => (ent W.g i j : Rat)) = 0 := fun j hj => by
      rw [← vdot_step _ _ _ _ _ _ hk hz, ← hy j hj]
      refine vdot_congr m (fun i _ => rfl) fun i hi => ?_
      show _ = ((ent (tk W.g k q z) i j : Int) : Rat)
      rw [ent_tk h.rg hk hz]
      split <;> grind
    have a := h.ind _ key
    intro i hi
    have ak := a k hk
    simp only [if_neg hn] at ak
    by_cases e : i = z
    · subst e
      have az := a i hi
      simp only [if_true] at az
      rw [ak] at az
      grind
    · have := a i hi
      simp only [if_neg e] at this
      exact this
/-- a column's multiple off another column -/
theorem WC.col (h : WC m w B W) {k z : Nat} {q : Int} (hk : k < w) (hz : z < w) (hn : k ≠ z) : WC m w B ⟨tkc W.g k q z, W.l, tk W.r k q z⟩ where
  rg := h.rg.tkc
  rl := h.rl
  rr := h.rr.tk hk hz
  eq := fun i j hi hj => by
    show (ent (tkc W.g k q z) i j : Rat) = rdot (W.l.getD i []) (bv B (rv (tk W.r k q z) j))
    rw [ent_tkc h.rg hk _ _ hi]
    have e1 : ∀ c, rv (tk W.r k q z) j c = if j = k then rv W.r k c - (q : Rat) * rv W.r z c else rv W.r j c := fun c => by
      unfold rv
      rw [ent_tk h.rr hk hz]
      split <;> grind
    by_cases e : j = k
    · rw [if_pos e]
      have e2 : bv B (rv (tk W.r k q z) j) = fun t => bv B (rv W.r k) t - (q : Rat) * bv B (rv W.r z) t := by
        funext t
        unfold bv
        rw [← rdot_sub]
        refine rdot_congr _ _ _ fun c _ => ?_
        rw [e1, if_pos e]
      rw [e2, rdot_sub, ← h.eq i k hi hk, ← h.eq i z hi hz]
      grind
    · rw [if_neg e]
      have e2 : bv B (rv (tk W.r k q z) j) = bv B (rv W.r j) := by
        funext t
        unfold bv
        refine rdot_congr _ _ _ fun c _ => ?_
        rw [e1, if_neg e]
      rw [e2]
      exact h.eq i j hi hj
  linj := h.linj
  span := fun x => by
    obtain ⟨y, hy⟩ := h.span x
    -- r k = r' k + q r' z
    refine ⟨fun j => if j = z then y z + (q : Rat) * y k else y j, fun c hc => ?_⟩
    rw [hy c hc]
    have a1 := vdot_step (fun j => if j = z then y z + (q : Rat) * y k else y j) (fun j => (ent W.r j c : Rat)) k z w q hk hz
    have a2 : vdot w (fun j => if j = z then y z + (q : Rat) * y k else y j) (fun j => (ent (tk W.r k q z) j c : Rat)) = vdot w (fun j => if j = z then y z + (q : Rat) * y k else y j) (fun j => if j = k then (ent W.r k c : Rat) - (q : Rat) * (ent W.r z c : Rat) else (ent W.r j c : Rat)) := by
      refine vdot_congr w (fun _ _ => rfl) fun j _ => ?_
      rw [ent_tk h.rr hk hz]
      split <;> grind
    show _ = vdot w _ (fun j => (ent (tk W.r k q z) j c : Rat))
    rw [a2, a1]
    refine vdot_congr w (fun j _ => ?_) fun _ _ => rfl
    by_cases e : j = z
    · subst e
      simp only [if_true, if_neg hn]
      grind
    · simp only [if_neg e]
  ind := fun y hy => by
    refine h.ind y fun j hj => ?_
    have hz0 : vdot m y (fun i => (ent W.g i z : Rat)) = 0 := by
      rw [← hy z hz]
      refine vdot_congr m (fun _ _ => rfl) fun i hi => ?_
      show _ = ((ent (tkc W.g k q z) i z : Int) : Rat)
      rw [ent_tkc h.rg hk _ _ hi, if_neg (Ne.symm hn)]
    by_cases e : j = k
    · subst e
      have a := hy j hj
      have e2 : vdot m y (fun i => (ent (tkc W.g j q z) i j : Rat)) = vdot m y (fun i => (ent W.g i j : Rat) - (q : Rat) * (ent W.g i z : Rat)) := by
        refine vdot_congr m (fun _ _ => rfl) fun i hi => ?_
        rw [ent_tkc h.rg hk _ _ hi, if_pos rfl]
        grind
      rw [e2, vdot_sub, hz0] at a
      grind
    · rw [← hy j hj]
      refine vdot_congr m (fun _ _ => rfl) fun i hi => ?_
      show _ = ((ent (tkc W.g k q z) i j : Int) : Rat)
      rw [ent_tkc h.rg hk _ _ hi, if_neg e]

theorem swp_lt {a b i n : Nat} (ha : a < n) (hb : b < n) (hi : i < n) : swp a b i < n := by unfold swp; repeat' split <;> try omega
theorem swp_swp (a b i : Nat) : swp a b (swp a b i) = i := by unfold swp; repeat' split <;> try omega
/-- a sum in another order -/
theorem vdot_swap (y a : Vec) {s k n : Nat} (hs : s < n) (hk : k < n) : vdot n (fun i => y (swp s k i)) (fun i => a (swp s k i)) = vdot n y a := by
  by_cases e : s = k
  · subst e
    have : ∀ i, swp s s i = i := fun i => by unfold swp; split <;> simp_all
    refine vdot_congr n (fun i _ => by rw [this]) fun i _ => by rw [this]
  · -- both changed at s and k
    have e1 : vdot n (fun i => y (swp s k i)) (fun i => a (swp s k i)) = vdot n (fun i => if i = s then y k else if i = k then y s else y i) (fun i => if i = s then a k else if i = k then a s else a i) := by
      refine vdot_congr n (fun i _ => ?_) fun i _ => ?_ <;> (unfold swp; repeat' split <;> try rfl)
    rw [e1, vdot_upd _ _ s _ n hs, vdot_upd _ _ k _ n hk, vdot_updL _ _ s _ n hs, vdot_updL _ _ k _ n hk]
    simp only [if_true, if_neg e, if_neg (Ne.symm e)]
    grind
/-- rows exchanged -/
theorem WC.swapR (h : WC m w B W) {s k : Nat} (hs : s < m) (hk : k < m) : WC m w B ⟨swp2 W.g s k, swp2 W.l s k, W.r⟩ where
  rg := h.rg.swp2 hs hk
  rl := h.rl.swp2 hs hk
  rr := h.rr
  eq := fun i j hi hj => by
    show (ent (swp2 W.g s k) i j : Rat) = rdot ((swp2 W.l s k).getD i []) _
    rw [ent_swp2 h.rg hs hk, getD_swp2 _ (by rw [h.rl.1]; exact hs) (by rw [h.rl.1]; exact hk)]
    exact h.eq _ j (swp_lt hs hk hi) hj
  linj := fun v hv => h.linj v ((Ker.swp2 h.rl hs hk).mp hv)
  span := h.span
  ind := fun y hy i hi => by
    have := h.ind (fun i => y (swp s k i)) (fun j hj => by
      rw [← hy j hj, ← vdot_swap _ _ hs hk]
      refine vdot_congr m (fun i _ => by rw [swp_swp]) fun i _ => ?_
      show _ = ((ent (swp2 W.g s k) i j : Int) : Rat)
      rw [ent_swp2 h.rg hs hk]) (swp s k i) (swp_lt hs hk hi)
    rwa [swp_swp] at this
/-- columns exchanged -/
theorem WC.swapC (h : WC m w B W) {s k : Nat} (hs : s < w) (hk : k < w) : WC m w B ⟨swpc W.g s k, W.l, swp2 W.r s k⟩ where
  rg := h.rg.swpc
  rl := h.rl
  rr := h.rr.swp2 hs hk
  eq := fun i j hi hj => by
    show (ent (swpc W.g s k) i j : Rat) = rdot (W.l.getD i []) (bv B (rv (swp2 W.r s k) j))
    rw [ent_swpc h.rg hs hk _ _ hi]
    have : rv (swp2 W.r s k) j = rv W.r (swp s k j) := by
      funext c
      unfold rv
      rw [ent_swp2 h.rr hs hk]
    rw [this]
    exact h.eq i _ hi (swp_lt hs hk hj)
  linj := h.linj
  span := fun x => by
    obtain ⟨y, hy⟩ := h.span x
    refine ⟨fun j => y (swp s k j), fun c hc => ?_⟩
    rw [hy c hc, ← vdot_swap _ _ hs hk]
    refine vdot_congr w (fun _ _ => rfl) fun j _ => ?_
    show _ = ((ent (swp2 W.r s k) j c : Int) : Rat)
    rw [ent_swp2 h.rr hs hk]
  ind := fun y hy => h.ind y fun j hj => by
    rw [← hy (swp s k j) (swp_lt hs hk hj)]
    refine vdot_congr m (fun _ _ => rfl) fun i hi => ?_
    show _ = ((ent (swpc W.g s k) i (swp s k j) : Int) : Rat)
    rw [ent_swpc h.rg hs hk _ _ hi, swp_swp]
/-- a row negated -/
theorem WC.neg (h : WC m w B W) {k : Nat} (hk : k < m) : WC m w B ⟨negR W.g k, negR W.l k, W.r⟩ where
  rg := h.rg.negR hk
  rl := h.rl.negR hk
  rr := h.rr
  eq := fun i j hi hj => by
    show (ent (negR W.g k) i j : Rat) = rdot ((negR W.l k).getD i []) _
    rw [ent_negR h.rg hk]
    unfold negR
    rw [getD_set _ _ _ _ (by rw [h.rl.1]; exact hk)]
    split
    · rw [rdot_neg, ← h.eq k j hk hj]
      grind
    · exact h.eq i j hi hj
  linj := fun v hv => h.linj v ((Ker.negR h.rl hk).mp hv)
  span := h.span
  ind := fun y hy i hi => by
    have := h.ind (fun i => if i = k then - y k else y i) (fun j hj => by
      rw [vdot_updL _ _ _ _ _ hk, ← hy j hj]
      have : vdot m y (fun i => (ent (negR W.g k) i j : Rat)) = vdot m y (fun i => if i = k then - (ent W.g k j : Rat) else (ent W.g i j : Rat)) := by
        refine vdot_congr m (fun _ _ => rfl) fun i _ => ?_
        rw [ent_negR h.rg hk]
        split <;> grind
      rw [this, vdot_upd _ _ _ _ _ hk]
      grind) i hi
    by_cases e : i = k
    · subst e
      simp only [if_true] at this
      grind
    · simp only [if_neg e] at this
      exact this
end
end K51

set_option maxHeartbeats 200000
/-! One item of the Smith form (settle): what a run needs and what it leaves. -/
namespace K51
def rowTo (s : Nat) (W : Wk) : Nat → Wk
  | 0 => W
  | n + 1 => if ent (rowTo s W n).g (s + 1 + n) s ≠ 0 then ⟨tk (rowTo s W n).g (s + 1 + n) (near (ent (rowTo s W n).g (s + 1 + n) s) (ent W.g s s)) s, tk (rowTo s W n).l (s + 1 + n) (near (ent (rowTo s W n).g (s + 1 + n) s) (ent W.g s s)) s, (rowTo s W n).r⟩ else rowTo s W n
def colTo (s : Nat) (p : Int) (W : Wk) : Nat → Wk
  | 0 => W
  | n + 1 => if ent (colTo s p W n).g s (s + 1 + n) ≠ 0 then ⟨tkc (colTo s p W n).g (s + 1 + n) (near (ent (colTo s p W n).g s (s + 1 + n)) p) s, (colTo s p W n).l, tk (colTo s p W n).r (s + 1 + n) (near (ent (colTo s p W n).g s (s + 1 + n)) p) s⟩ else colTo s p W n
def swapW (W : Wk) (s k j : Nat) : Wk := ⟨swpc (swp2 W.g s k) s j, swp2 W.l s k, swp2 W.r s j⟩
def cross (m w s : Nat) (V : Wk) : Wk := colTo s (ent V.g s s) (rowTo s V (m - 1 - s)) (w - 1 - s)
def addW (W : Wk) (s k : Nat) : Wk := ⟨tk W.g s (-1) k, tk W.l s (-1) k, W.r⟩
def BdW (e : Nat) (W : Wk) : Prop := Bd e W.g ∧ Bd e W.l ∧ Bd e W.r
/-- the place of the smallest item other than 0 -/
def SmG (g : Mat) (m w s : Nat) : Option (Nat × Nat) → Prop
  | none => ∀ i j, s ≤ i → i < m → s ≤ j → j < w → ent g i j = 0
  | some (k, j) => (s ≤ k ∧ k < m ∧ s ≤ j ∧ j < w) ∧ ent g k j ≠ 0 ∧ (∀ i' j', s ≤ i' → i' < m → s ≤ j' → j' < w → ent g i' j' ≠ 0 → (ent g k j).natAbs ≤ (ent g i' j').natAbs) ∧
      ((k = s ∧ j = s) ∨ ent g s s = 0 ∨ (ent g k j).natAbs < (ent g s s).natAbs)
def Crossed (g : Mat) (m w s : Nat) : Prop := (∀ i, s < i → i < m → ent g i s = 0) ∧ ∀ j, s < j → j < w → ent g s j = 0
/-- a row below the pivot with an item that it does not divide -/
def Unev (g : Mat) (m w s : Nat) : Option Nat → Prop
  | none => ∀ i j, s < i → i < m → s < j → j < w → ent g s s ∣ ent g i j
  | some k => s < k ∧ k < m ∧ ∃ j, s < j ∧ j < w ∧ ¬ ent g s s ∣ ent g k j
/-- the loop of settle as a predicate -/
def SOk (e m w s : Nat) : Nat → Wk → (Wk → Prop) → Prop
  | 0, _, _ => False
  | n + 1, W, Post => ¬ SmG W.g m w s none ∧ ∀ k j, SmG W.g m w s (some (k, j)) →
      ent (swapW W s k j).g s s ≠ 0 ∧ (∀ t, s + t < m → BdW e (rowTo s (swapW W s k j) t)) ∧
      (∀ t, s + t < w → BdW e (colTo s (ent (swapW W s k j).g s s) (rowTo s (swapW W s k j) (m - 1 - s)) t)) ∧
      (Crossed (cross m w s (swapW W s k j)).g m w s → (Unev (cross m w s (swapW W s k j)).g m w s none → Post (cross m w s (swapW W s k j))) ∧
        ∀ k', Unev (cross m w s (swapW W s k j)).g m w s (some k') → SOk e m w s n (addW (cross m w s (swapW W s k j)) s k') Post) ∧
      (¬ Crossed (cross m w s (swapW W s k j)).g m w s → SOk e m w s n (cross m w s (swapW W s k j)) Post)
theorem SOk.fuel {e m w s : Nat} {P : Wk → Prop} : ∀ {n n' : Nat} {W : Wk}, SOk e m w s n W P → n ≤ n' → SOk e m w s n' W P
  | 0, _, _, h, _ => False.elim h
  | n + 1, 0, _, _, h => by omega
  | n + 1, n' + 1, W, ⟨h1, h2⟩, hn => ⟨h1, fun k j hs => ⟨(h2 k j hs).1, (h2 k j hs).2.1, (h2 k j hs).2.2.1, fun c => ⟨((h2 k j hs).2.2.2.1 c).1, fun k' u => SOk.fuel (((h2 k j hs).2.2.2.1 c).2 k' u) (by omega)⟩, fun c => SOk.fuel ((h2 k j hs).2.2.2.2 c) (by omega)⟩⟩

section
variable {m w s : Nat} {W : Wk} {p : Int}
structure WR (m w : Nat) (W : Wk) : Prop where
  g : Rect m w W.g
  l : Rect m m W.l
  r : Rect w w W.r
theorem WC.wr {B : Mat} (h : WC m w B W) : WR m w W := ⟨h.rg, h.rl, h.rr⟩
theorem rowTo_r : ∀ n, (rowTo s W n).r = W.r
  | 0 => rfl
  | n + 1 => by
    simp only [rowTo]
    split
    · exact rowTo_r n
    · exact rowTo_r n
theorem rowTo_wr (h : WR m w W) (hs : s < m) : ∀ n, s + n < m → WR m w (rowTo s W n)
  | 0, _ => h
  | n + 1, hn => by
    have ih := rowTo_wr h hs n (by omega)
    simp only [rowTo]
    split
    · exact ⟨ih.g.tk (by omega) hs, ih.l.tk (by omega) hs, ih.r⟩
    · exact ih
theorem rowTo_g (h : WR m w W) (hs : s < m) (hp : ent W.g s s ≠ 0) : ∀ n, s + n < m → ∀ i j, ent (rowTo s W n).g i j = if s < i ∧ i ≤ s + n then ent W.g i j - near (ent W.g i s) (ent W.g s s) * ent W.g s j else ent W.g i j
  | 0, _, i, j => by rw [if_neg (by omega)]; rfl
  | n + 1, hn, i, j => by
    have ih := rowTo_g h hs hp n (by omega)
    have eK : ∀ j, ent (rowTo s W n).g (s + 1 + n) j = ent W.g (s + 1 + n) j := fun j => by rw [ih, if_neg (by omega)]
    have eZ : ∀ j, ent (rowTo s W n).g s j = ent W.g s j := fun j => by rw [ih, if_neg (by omega)]
    simp only [rowTo]
    split
    · rw [ent_tk (rowTo_wr h hs n (by omega)).g (by omega) hs, eK, eK, eZ]
      by_cases e : i = s + 1 + n
      · subst e
        rw [if_pos rfl, if_pos (by omega)]
      · rw [if_neg e, ih]
        by_cases e2 : s < i ∧ i ≤ s + n
        · rw [if_pos e2, if_pos (by omega)]
        · rw [if_neg e2, if_neg (by omega)]
    · rename_i hc
      have hc : ent W.g (s + 1 + n) s = 0 := by
        rw [eK] at hc
        exact Decidable.not_not.mp hc
      rw [ih]
      by_cases e : i = s + 1 + n
      · subst e
        rw [if_neg (by omega), if_pos (by omega), hc, near_zero _ hp]
        omega
      · by_cases e2 : s < i ∧ i ≤ s + n
        · rw [if_pos e2, if_pos (by omega)]
        · rw [if_neg e2, if_neg (by omega)]
theorem rowTo_l (h : WR m w W) (hs : s < m) (hp : ent W.g s s ≠ 0) : ∀ n, s + n < m → ∀ i j, ent (rowTo s W n).l i j = if s < i ∧ i ≤ s + n then ent W.l i j - near (ent W.g i s) (ent W.g s s) * ent W.l s j else ent W.l i j
  | 0, _, i, j => by rw [if_neg (by omega)]; rfl
  | n + 1, hn, i, j => by
    have ih := rowTo_l h hs hp n (by omega)
    have eK : ent (rowTo s W n).g (s + 1 + n) s = ent W.g (s + 1 + n) s := by rw [rowTo_g h hs hp n (by omega), if_neg (by omega)]
    have eZ : ∀ j, ent (rowTo s W n).l s j = ent W.l s j := fun j => by rw [ih, if_neg (by omega)]
    have eL : ∀ j, ent (rowTo s W n).l (s + 1 + n) j = ent W.l (s + 1 + n) j := fun j => by rw [ih, if_neg (by omega)]
    simp only [rowTo]
    split
    · rw [ent_tk (rowTo_wr h hs n (by omega)).l (by omega) hs, eK, eZ, eL]
      by_cases e : i = s + 1 + n
      · subst e
        rw [if_pos rfl, if_pos (by omega)]
      · rw [if_neg e, ih]
        by_cases e2 : s < i ∧ i ≤ s + n
        · rw [if_pos e2, if_pos (by omega)]
        · rw [if_neg e2, if_neg (by omega)]
    · rename_i hc
      have hc : ent W.g (s + 1 + n) s = 0 := by
        rw [eK] at hc
        exact Decidable.not_not.mp hc
      rw [ih]
      by_cases e : i = s + 1 + n
      · subst e
        rw [if_neg (by omega), if_pos (by omega), hc, near_zero _ hp]
        omega
      · by_cases e2 : s < i ∧ i ≤ s + n
        · rw [if_pos e2, if_pos (by omega)]
        · rw [if_neg e2, if_neg (by omega)]
theorem rowTo_wc {B : Mat} (h : WC m w B W) (hs : s < m) : ∀ n, s + n < m → WC m w B (rowTo s W n)
  | 0, _ => h
  | n + 1, hn => by
    have ih := rowTo_wc h hs n (by omega)
    simp only [rowTo]
    split
    · exact ih.row (by omega) hs (by omega)
    · exact ih
theorem colTo_l : ∀ n, (colTo s p W n).l = W.l
  | 0 => rfl
  | n + 1 => by
    simp only [colTo]
    split
    · exact colTo_l n
    · exact colTo_l n
theorem colTo_wr (h : WR m w W) (hs : s < w) : ∀ n, s + n < w → WR m w (colTo s p W n)
  | 0, _ => h
  | n + 1, hn => by
    have ih := colTo_wr h hs n (by omega)
    simp only [colTo]
    split
    · exact ⟨ih.g.tkc, ih.l, ih.r.tk (by omega) hs⟩
    · exact ih
theorem colTo_g (h : WR m w W) (hm : s < m) (hs : s < w) (hp : p ≠ 0) : ∀ n, s + n < w → ∀ i j, i < m → ent (colTo s p W n).g i j = if s < j ∧ j ≤ s + n then ent W.g i j - near (ent W.g s j) p * ent W.g i s else ent W.g i j
  | 0, _, i, j, _ => by rw [if_neg (by omega)]; rfl
  | n + 1, hn, i, j, hi => by
    have ih := colTo_g h hm hs hp n (by omega)
    have eK : ∀ i, i < m → ent (colTo s p W n).g i (s + 1 + n) = ent W.g i (s + 1 + n) := fun i hi => by rw [ih _ _ hi, if_neg (by omega)]
    have eZ : ∀ i, i < m → ent (colTo s p W n).g i s = ent W.g i s := fun i hi => by rw [ih _ _ hi, if_neg (by omega)]
    simp only [colTo]
    split
    · rw [ent_tkc (colTo_wr h hs n (by omega)).g (by omega) _ _ hi, eK _ hi, eK _ hm, eZ _ hi]
      by_cases e : j = s + 1 + n
      · subst e
        rw [if_pos rfl, if_pos (by omega)]
      · rw [if_neg e, ih _ _ hi]
        by_cases e2 : s < j ∧ j ≤ s + n
        · rw [if_pos e2, if_pos (by omega)]
        · rw [if_neg e2, if_neg (by omega)]
    · rename_i hc
      have hc : ent W.g s (s + 1 + n) = 0 := by
        rw [eK _ hm] at hc
        exact Decidable.not_not.mp hc
      rw [ih _ _ hi]
      by_cases e : j = s + 1 + n
      · subst e
        rw [if_neg (by omega), if_pos (by omega), hc, near_zero _ hp]
        omega
      · by_cases e2 : s < j ∧ j ≤ s + n
        · rw [if_pos e2, if_pos (by omega)]
        · rw [if_neg e2, if_neg (by omega)]
theorem colTo_r (h : WR m w W) (hm : s < m) (hs : s < w) (hp : p ≠ 0) : ∀ n, s + n < w → ∀ i j, ent (colTo s p W n).r i j = if s < i ∧ i ≤ s + n then ent W.r i j - near (ent W.g s i) p * ent W.r s j else ent W.r i j
  | 0, _, i, j => by rw [if_neg (by omega)]; rfl
  | n + 1, hn, i, j => by
    have ih := colTo_r h hm hs hp n (by omega)
    have eK : ent (colTo s p W n).g s (s + 1 + n) = ent W.g s (s + 1 + n) := by rw [colTo_g h hm hs hp n (by omega) _ _ hm, if_neg (by omega)]
    have eZ : ∀ j, ent (colTo s p W n).r s j = ent W.r s j := fun j => by rw [ih, if_neg (by omega)]
    have eL : ∀ j, ent (colTo s p W n).r (s + 1 + n) j = ent W.r (s + 1 + n) j := fun j => by rw [ih, if_neg (by omega)]
    simp only [colTo]
    split
    · rw [ent_tk (colTo_wr h hs n (by omega)).r (by omega) hs, eK, eZ, eL]
      by_cases e : i = s + 1 + n
      · subst e
        rw [if_pos rfl, if_pos (by omega)]
      · rw [if_neg e, ih]
        by_cases e2 : s < i ∧ i ≤ s + n
        · rw [if_pos e2, if_pos (by omega)]
        · rw [if_neg e2, if_neg (by omega)]
    · rename_i hc
      have hc : ent W.g s (s + 1 + n) = 0 := by
        rw [eK] at hc
        exact Decidable.not_not.mp hc
      rw [ih]
      by_cases e : i = s + 1 + n
      · subst e
        rw [if_neg (by omega), if_pos (by omega), hc, near_zero _ hp]
        omega
      · by_cases e2 : s < i ∧ i ≤ s + n
        · rw [if_pos e2, if_pos (by omega)]
        · rw [if_neg e2, if_neg (by omega)]
theorem colTo_wc {B : Mat} (h : WC m w B W) (hs : s < w) : ∀ n, s + n < w → WC m w B (colTo s p W n)
  | 0, _ => h
  | n + 1, hn => by
    have ih := colTo_wc h hs n (by omega)
    simp only [colTo]
    split
    · exact ih.col (by omega) hs (by omega)
    · exact ih
end

/-! ### the run -/
theorem D_zero_any (c : Nat) : ∀ (J : List Nat) (rs : List Row), J.length = rs.length → c ∈ J → (∀ r ∈ rs, r c = 0) → D J rs = 0
  | [], _, _, h, _ => by simp at h
  | j :: J, rs, hl, hc, h => by
    rcases List.mem_cons.mp hc with e | hc
    · subst e
      exact D_zero_col J c rs h
    · show altE (D J) (fun r => r j) [] rs = 0
      have : ∀ (rs pre : List Row), J.length + 1 = pre.length + rs.length → (∀ r ∈ pre, r c = 0) → (∀ r ∈ rs, r c = 0) → altE (D J) (fun r => r j) pre rs = 0 := by
        intro rs
        induction rs with
        | nil => intro _ _ _ _; rfl
        | cons r rs ih =>
          intro pre hl hp hr
          simp only [altE]
          rw [D_zero_any c J (pre ++ rs) (by simp at hl ⊢; omega) hc (fun x hx => by
            rcases List.mem_append.mp hx with hx | hx
            · exact hp x hx
            · exact hr x (by simp [hx])), ih (pre ++ [r]) (by simp at hl ⊢; omega) (fun x hx => by
            rcases List.mem_append.mp hx with hx | hx
            · exact hp x hx
            · simp at hx; subst hx; exact hr _ (by simp)) (fun x hx => hr x (by simp [hx]))]
          simp
      exact this rs [] (by simpa using hl) (by simp) h

/-- a row added to the pivot's, where the cross is empty -/
theorem MB.uneven {K s m w k : Nat} {G : Mx} (h : MB K s m s w G) (hc : ∀ i, s < i → i < m → G i s = 0) (hr : ∀ j, s < j → j < w → G s j = 0) (h1 : s < k) (h2 : k < m) :
    MB K s m s w (fun i j => if i = s then G s j + G k j else G i j) := fun I J e n d f => by
  by_cases hs : s ∈ I
  · obtain ⟨p, q, rfl⟩ := List.append_of_mem hs
    obtain ⟨d1, nd, _⟩ := d.parts
    have hl : ∀ l : List Nat, s ∉ l → l.map (fun i j => if i = s then G s j + G k j else G i j) = l.map G := fun l hl => List.map_congr_left fun x hx => by
      have : x ≠ s := fun z => hl (z ▸ hx)
      funext j
      rw [if_neg this]
    have e0 : J.length = p.length + q.length + 1 := by simp at e; omega
    have e1 : (p ++ s :: q).map (fun i j => if i = s then G s j + G k j else G i j) = p.map G ++ (fun j => G s j - (-1) * G k j) :: q.map G := by
      rw [List.map_append, List.map_cons, hl p (fun z => nd (by simp [z])), hl q (fun z => nd (by simp [z]))]
      congr 2
      funext j
      rw [if_pos rfl]
      omega
    have L := D_lin J (p.map G) (q.map G) (G s) (G k) (-1) (by simpa using e0)
    rw [e1, L]
    have X0 := h _ J e n d f
    rw [List.map_append, List.map_cons] at X0
    by_cases hk : k ∈ p ++ q
    · have z0 : D J (p.map G ++ G k :: q.map G) = 0 := by
        rcases List.mem_append.mp hk with hk | hk
        · obtain ⟨a, b, rfl⟩ := List.append_of_mem hk
          have := D_dup J (a.map G) (b.map G) (q.map G) (G k) (by simp at e0 ⊢; omega)
          simpa using this
        · obtain ⟨a, b, rfl⟩ := List.append_of_mem hk
          have := D_dup J (p.map G) (a.map G) (b.map G) (G k) (by simp at e0 ⊢; omega)
          simpa using this
      rw [z0]
      simpa using X0
    · by_cases hj : s ∈ J
      · have z0 : D J (p.map G ++ G k :: q.map G) = 0 := by
          refine D_zero_any s J _ (by simp; omega) hj fun r hr => ?_
          rcases List.mem_append.mp hr with hr | hr
          · obtain ⟨i, hi, rfl⟩ := List.mem_map.mp hr
            have := d1.2 i (by simp [hi])
            have ne : i ≠ s := fun z => nd (by simp [← z, hi])
            exact hc i (by omega) this.2
          · rcases List.mem_cons.mp hr with rfl | hr
            · exact hc k h1 h2
            · obtain ⟨i, hi, rfl⟩ := List.mem_map.mp hr
              have := d1.2 i (by simp [hi])
              have ne : i ≠ s := fun z => nd (by simp [← z, hi])
              exact hc i (by omega) this.2
        rw [z0]
        simpa using X0
      · have z0 : D J (p.map G ++ G s :: q.map G) = 0 := by
          have : (D J (p.map G ++ G s :: q.map G)).natAbs = 0 := by
            rw [D_abs_head J _ _ _ (by simpa using e0), D_row J _ _ (by simp; omega), altE_zero _ _ _ _ (fun j hj' => by
              have := f.2 j hj'
              have ne : j ≠ s := fun z => hj (z ▸ hj')
              exact hr j (by omega) this.2)]
            rfl
          exact Int.natAbs_eq_zero.mp this
        have X1 := h (p ++ k :: q) J (by simpa using e) (by simp) (d.put hk (by omega) h2) f
        rw [List.map_append, List.map_cons] at X1
        rw [z0]
        have : (0 - (-1) * D J (p.map G ++ G k :: q.map G)) = D J (p.map G ++ G k :: q.map G) := by omega
        rw [this]
        simpa using X1
  · have e1 : I.map (fun i j => if i = s then G s j + G k j else G i j) = I.map G := List.map_congr_left fun x hx => by
      have : x ≠ s := fun z => hs (z ▸ hx)
      funext j
      rw [if_neg this]
    rw [e1]
    exact h I J e n d f
end K51

set_option maxHeartbeats 200000
/-! The run of settle: the smallest item falls by halves, the minors grow little, steps between two halves are few. -/
namespace K51
structure SI (m w : Nat) (B : Mat) (s k kd x : Nat) (W : Wk) : Prop where
  wc : WC m w B W
  sm : s < m
  sw : s < w
  mb : MB (2 ^ k) s m s w (ent W.g)
  out : ∀ i j, i < m → j < w → (i < s ∨ j < s) → i ≠ j → ent W.g i j = 0
  dia : ∀ i, i < s → ent W.g i i ≠ 0 ∧ (ent W.g i i).natAbs ≤ 2 ^ kd
  lx : ∀ i j, (ent W.l i j).natAbs < 2 ^ x
  rx : ∀ i j, (ent W.r i j).natAbs < 2 ^ x
/-- some item other than 0 below 2 ^ h -/
def stA (m w s h : Nat) (g : Mat) : Prop := ∃ i j, (s ≤ i ∧ i < m ∧ s ≤ j ∧ j < w) ∧ ent g i j ≠ 0 ∧ (ent g i j).natAbs < 2 ^ h
/-- behind an empty cross: the pivot p between 2 ^ (h - 1) and 2 ^ h stands with 0 below it and an item that it does not divide in its row; each row of Mk has an item of an old pivot -/
structure stB (m w s h p : Nat) (Mk : List Nat) (g : Mat) : Prop where
  h0 : 2 ^ h ≤ 2 * p
  h1 : p < 2 ^ h
  pv : (ent g s s).natAbs = p
  col : ∀ i, s < i → i < m → ent g i s = 0
  odd : ∃ j, s < j ∧ j < w ∧ ¬ ent g s s ∣ ent g s j
  nd : Mk.Nodup
  rng : ∀ i ∈ Mk, s < i ∧ i < m
  mks : ∀ i ∈ Mk, ∃ j f, s < j ∧ j < w ∧ p < f ∧ f < 2 ^ h ∧ (ent g i j).natAbs = f ∧ ∀ i', s ≤ i' → i' < m → ent g i' j = 0 ∨ (ent g i' j).natAbs = f
structure SPost (m w : Nat) (B : Mat) (s kf xf : Nat) (W : Wk) : Prop where
  wc : WC m w B W
  mb : MB (2 ^ kf) (s + 1) m (s + 1) w (ent W.g)
  out : ∀ i j, i < m → j < w → (i < s + 1 ∨ j < s + 1) → i ≠ j → ent W.g i j = 0
  dia : ∀ i, i < s + 1 → ent W.g i i ≠ 0 ∧ (ent W.g i i).natAbs ≤ 2 ^ kf
  lx : ∀ i j, (ent W.l i j).natAbs < 2 ^ xf
  rx : ∀ i j, (ent W.r i j).natAbs < 2 ^ xf

theorem not_dvd_of {P a : Int} {p f : Nat} (hP : P.natAbs = p) (ha : a.natAbs = f) (h1 : p < f) (h2 : f < 2 * p) : ¬ P ∣ a := by
  intro h
  have h := Int.natAbs_dvd_natAbs.mpr h
  rw [hP, ha] at h
  obtain ⟨c, hc⟩ := h
  rcases (show c = 0 ∨ c = 1 ∨ 2 ≤ c by omega) with rfl | rfl | h3
  · simp at hc; omega
  · simp at hc; omega
  · have : p * 2 ≤ p * c := Nat.mul_le_mul_left _ h3
    omega

section
variable {m w s : Nat} {B : Mat} {W : Wk}
/-- behind the exchange -/
theorem SI.swap {k kd x : Nat} (I : SI m w B s k kd x W) {a b : Nat} (a1 : s ≤ a) (a2 : a < m) (b1 : s ≤ b) (b2 : b < w) : SI m w B s k kd x (swapW W s a b) ∧
    ∀ i j, i < m → ent (swapW W s a b).g i j = ent W.g (swp s a i) (swp s b j) := by
  have E : ∀ i j, i < m → ent (swapW W s a b).g i j = ent W.g (swp s a i) (swp s b j) := fun i j hi => by
    show ent (swpc (swp2 W.g s a) s b) i j = _
    rw [ent_swpc (I.wc.rg.swp2 I.sm a2) I.sw b2 _ _ hi, ent_swp2 I.wc.rg I.sm a2]
  have slt : ∀ i, i < s → swp s a i = i := fun i hi => by unfold swp; rw [if_neg (by omega), if_neg (by omega)]
  have sltb : ∀ i, i < s → swp s b i = i := fun i hi => by unfold swp; rw [if_neg (by omega), if_neg (by omega)]
  have sge : ∀ i, s ≤ i → s ≤ swp s a i := fun i hi => by unfold swp; repeat' split <;> try omega
  have sgeb : ∀ i, s ≤ i → s ≤ swp s b i := fun i hi => by unfold swp; repeat' split <;> try omega
  refine ⟨?_, E⟩
  exact
    { wc := (I.wc.swapR I.sm a2).swapC I.sw b2
      sm := I.sm, sw := I.sw
      mb := ((I.mb.swap (Nat.le_refl _) I.sm a1 a2).swapC (Nat.le_refl _) I.sw b1 b2).congr fun i j h1 h2 h3 h4 => E i j h2
      out := fun i j hi hj h ne => by
        rw [E i j hi]
        rcases h with h | h
        · rw [slt i h]
          rcases Nat.lt_or_ge j s with hj2 | hj2
          · rw [sltb j hj2]; exact I.out i j hi hj (.inl h) ne
          · exact I.out i _ hi (swp_lt I.sw b2 hj) (.inl h) (by have := sgeb j hj2; omega)
        · rw [sltb j h]
          rcases Nat.lt_or_ge i s with hi2 | hi2
          · rw [slt i hi2]; exact I.out i j hi hj (.inl hi2) ne
          · exact I.out _ j (swp_lt I.sm a2 hi) hj (.inr h) (by have := sge i hi2; omega)
      dia := fun i hi => by
        rw [E i i (by have := I.sm; omega), slt i hi, sltb i hi]
        exact I.dia i hi
      lx := fun i j => by
        show (ent (swp2 W.l s a) i j).natAbs < _
        rw [ent_swp2 I.wc.rl I.sm a2]
        exact I.lx _ _
      rx := fun i j => by
        show (ent (swp2 W.r s b) i j).natAbs < _
        rw [ent_swp2 I.wc.rr I.sw b2]
        exact I.rx _ _ }

/-- the cross: entries, sizes -/
structure CrossF (m w : Nat) (B : Mat) (s k kd x e lc kf : Nat) (V : Wk) : Prop where
  si : SI m w B s (k + 2 * lc) kd (x + (kf + 2)) (cross m w s V)
  bd1 : ∀ t, s + t < m → BdW e (rowTo s V t)
  bd2 : ∀ t, s + t < w → BdW e (colTo s (ent V.g s s) (rowTo s V (m - 1 - s)) t)
  row : ∀ j, s < j → j < w → ent (cross m w s V).g s j = ent V.g s j - near (ent V.g s j) (ent V.g s s) * ent V.g s s
  col : ∀ i, s < i → i < m → ent (cross m w s V).g i s = ent V.g i s - near (ent V.g i s) (ent V.g s s) * ent V.g s s
  pv : ent (cross m w s V).g s s = ent V.g s s
  still : ∀ j, s < j → j < w → ent V.g s j = 0 → ∀ i, i < m → ent (cross m w s V).g i j = ent V.g i j
  calm : Crossed (cross m w s V).g m w s → MB (2 ^ k) s m s w (ent (cross m w s V).g)

theorem cross_ok {k kd x e lc kf : Nat} (V : Wk) (I : SI m w B s k kd x V) (hp : ent V.g s s ≠ 0) (hkap : m - s ≤ 2 ^ (lc + 1)) (hk : k + 2 * lc ≤ kf) (hkd : kd ≤ kf) (hx : x + (kf + 2) ≤ e) (hke : kf < e) : CrossF m w B s k kd x e lc kf V := by
  have hs := I.sm
  have hw := I.sw
  have wr := I.wc.wr
  have n1 : s + (m - 1 - s) < m := by omega
  have n2 : s + (w - 1 - s) < w := by omega
  have wr1 := rowTo_wr wr hs (m - 1 - s) n1
  have G1 := rowTo_g wr hs hp
  have L1 := rowTo_l wr hs hp
  have G2 := colTo_g (p := ent V.g s s) wr1 hs hw hp
  have R2 := colTo_r (p := ent V.g s s) wr1 hs hw hp
  have e1s : ∀ t, s + t < m → ∀ j, ent (rowTo s V t).g s j = ent V.g s j := fun t ht j => by rw [G1 t ht, if_neg (by omega)]
  have EG1 : ∀ i j, i < m → ent (rowTo s V (m - 1 - s)).g i j = if s < i then ent V.g i j - near (ent V.g i s) (ent V.g s s) * ent V.g s j else ent V.g i j := fun i j hi => by
    rw [G1 _ n1]
    by_cases q : s < i
    · rw [if_pos q, if_pos (by omega)]
    · rw [if_neg q, if_neg (by omega)]
  have EG2 : ∀ i j, i < m → j < w → ent (cross m w s V).g i j = if s < j then ent (rowTo s V (m - 1 - s)).g i j - near (ent V.g s j) (ent V.g s s) * ent (rowTo s V (m - 1 - s)).g i s else ent (rowTo s V (m - 1 - s)).g i j := fun i j hi hj => by
    unfold cross
    rw [G2 _ n2 _ _ hi, e1s _ n1]
    by_cases q : s < j
    · rw [if_pos q, if_pos (by omega)]
    · rw [if_neg q, if_neg (by omega)]
  -- minors
  have phaseR : ∀ {tau lc' : Nat}, tau ≤ 2 → tau * (m - s) ≤ 2 * 2 ^ lc' → (∀ i, s < i → i < m → 2 * (ent V.g i s - near (ent V.g i s) (ent V.g s s) * ent V.g s s).natAbs ≤ tau * (ent V.g s s).natAbs) →
      MB (2 ^ (k + lc')) s m s w (ent (rowTo s V (m - 1 - s)).g) := fun {tau lc'} ht hc hq => by
    refine (I.mb.phase (K' := 2 ^ (k + lc')) (z := s) (c0 := s) (kap := m - s) (tau := tau) (fun i => near (ent V.g i s) (ent V.g s s)) (Nat.le_refl _) hs (Nat.le_refl _) hw hp (fun i h1 h2 h3 => hq i (by omega) h2) (.inl (Nat.le_refl _)) ht ?_ ?_).congr fun i j h1 h2 h3 h4 => ?_
    · exact Nat.mul_le_mul_left _ (pow_le (by omega))
    · rw [Nat.pow_add]
      calc tau * (m - s) * 2 ^ k ≤ 2 * 2 ^ lc' * 2 ^ k := Nat.mul_le_mul_right _ hc
        _ = 2 * (2 ^ k * 2 ^ lc') := by rw [Nat.mul_assoc, Nat.mul_comm (2 ^ lc')]
    · rw [EG1 i j h2]
      by_cases q : i = s
      · rw [if_pos q, if_neg (by omega)]
      · rw [if_neg q, if_pos (by omega)]
  have phaseC : ∀ {tau lc' k' : Nat}, MB (2 ^ k') s m s w (ent (rowTo s V (m - 1 - s)).g) → tau ≤ 2 → tau * (m - s) ≤ 2 * 2 ^ lc' → (∀ j, s < j → j < w → 2 * (ent V.g s j - near (ent V.g s j) (ent V.g s s) * ent V.g s s).natAbs ≤ tau * (ent V.g s s).natAbs) →
      MB (2 ^ (k' + lc')) s m s w (ent (cross m w s V).g) := fun {tau lc' k'} H ht hc hq => by
    have ps : ent (rowTo s V (m - 1 - s)).g s s = ent V.g s s := e1s _ n1 s
    have rs : ∀ j, ent (rowTo s V (m - 1 - s)).g s j = ent V.g s j := e1s _ n1
    have T := (H.T.phase (K' := 2 ^ (k' + lc')) (z := s) (c0 := s) (kap := m - s) (tau := tau) (fun j => near (ent V.g s j) (ent V.g s s)) (Nat.le_refl _) hw (Nat.le_refl _) hs (by rw [ps]; exact hp) (fun j h1 h2 h3 => by
      show 2 * (ent (rowTo s V (m - 1 - s)).g s j - near (ent V.g s j) (ent V.g s s) * ent (rowTo s V (m - 1 - s)).g s s).natAbs ≤ tau * (ent (rowTo s V (m - 1 - s)).g s s).natAbs
      rw [ps, rs]
      exact hq j (by omega) h2) (.inr (Nat.le_refl _)) ht (Nat.mul_le_mul_left _ (pow_le (by omega))) (by
      rw [Nat.pow_add]
      calc tau * (m - s) * 2 ^ k' ≤ 2 * 2 ^ lc' * 2 ^ k' := Nat.mul_le_mul_right _ hc
        _ = 2 * (2 ^ k' * 2 ^ lc') := by rw [Nat.mul_assoc, Nat.mul_comm (2 ^ lc')])).T
    refine T.congr fun i j h1 h2 h3 h4 => ?_
    rw [EG2 i j h2 h4]
    by_cases q : j = s
    · rw [if_pos q, if_neg (by omega)]
    · rw [if_neg q, if_pos (by omega)]
  have hkap2 : 1 * (m - s) ≤ 2 * 2 ^ lc := by rw [Nat.pow_succ] at hkap; omega
  have mb1 : MB (2 ^ (k + lc)) s m s w (ent (rowTo s V (m - 1 - s)).g) := phaseR (by decide) hkap2 fun i _ _ => by rw [Nat.one_mul]; exact near_ok _ hp
  have mb2 : MB (2 ^ (k + 2 * lc)) s m s w (ent (cross m w s V).g) := by
    have := phaseC mb1 (by decide) hkap2 fun j _ _ => by rw [Nat.one_mul]; exact near_ok _ hp
    rw [show k + 2 * lc = k + lc + lc by omega]
    exact this
  have outV := I.out
  have colV : ∀ i, s ≤ i → i < m → (ent V.g i s).natAbs ≤ 2 ^ kf := fun i h1 h2 => Nat.le_trans (I.mb.entry h1 h2 (Nat.le_refl _) hw) (pow_le (by omega))
  have rowV : ∀ j, s ≤ j → j < w → (ent V.g s j).natAbs ≤ 2 ^ kf := fun j h1 h2 => Nat.le_trans (I.mb.entry (Nat.le_refl _) hs h1 h2) (pow_le (by omega))
  have out1 : ∀ t, s + t < m → ∀ i j, i < m → j < w → (i < s ∨ j < s) → ent (rowTo s V t).g i j = ent V.g i j := fun t ht i j hi hj h => by
    rw [G1 t ht]
    split
    · rename_i q
      have : j < s := by omega
      rw [outV s j hs hj (.inr this) (by omega)]
      simp
    · rfl
  have l1 : ∀ t, s + t < m → ∀ i j, (ent (rowTo s V t).l i j).natAbs < 2 ^ (x + (kf + 2)) := fun t ht i j => by
    rw [L1 t ht]
    split
    · exact step_size (colV i (by omega) (by omega)) hp (I.lx i j) (I.lx s j)
    · exact Nat.lt_of_lt_of_le (I.lx i j) (pow_le (by omega))
  have r2 : ∀ t, s + t < w → ∀ i j, (ent (colTo s (ent V.g s s) (rowTo s V (m - 1 - s)) t).r i j).natAbs < 2 ^ (x + (kf + 2)) := fun t ht i j => by
    rw [R2 t ht, rowTo_r]
    split
    · rw [e1s _ n1]
      exact step_size (rowV i (by omega) (by omega)) hp (I.rx i j) (I.rx s j)
    · exact Nat.lt_of_lt_of_le (I.rx i j) (pow_le (by omega))
  have toE : ∀ y : Nat, y ≤ 2 ^ kf → y < 2 ^ e := fun y hy => Nat.lt_of_le_of_lt hy (pow_lt hke)
  have offV : ∀ i j, i < m → j < w → (i < s ∨ j < s) → (ent V.g i j).natAbs < 2 ^ e := fun i j hi hj h => by
    by_cases q : i = j
    · subst q
      exact toE _ (Nat.le_trans (I.dia i (by omega)).2 (pow_le hkd))
    · rw [outV i j hi hj h q]; simp; exact Nat.pow_pos (by decide)
  have C_out : ∀ t, s + t < w → ∀ i j, i < m → j < w → (i < s ∨ j < s) → ent (colTo s (ent V.g s s) (rowTo s V (m - 1 - s)) t).g i j = ent V.g i j := fun t ht i j hi hj h => by
    rw [G2 t ht i j hi]
    split
    · rename_i q
      have hi2 : i < s := by omega
      rw [out1 _ n1 i j hi hj h, out1 _ n1 i s hi hw (.inl hi2), outV i s hi hw (.inl hi2) (by omega)]
      simp
    · exact out1 _ n1 i j hi hj h
  refine
    { si :=
        { wc := colTo_wc (rowTo_wc I.wc hs _ n1) hw _ n2, sm := hs, sw := hw, mb := mb2
          out := fun i j hi hj h ne => by
            unfold cross
            rw [C_out _ n2 i j hi hj h]
            exact outV i j hi hj h ne
          dia := fun i hi => by
            unfold cross
            rw [C_out _ n2 i i (by omega) (by omega) (.inl hi)]
            exact I.dia i hi
          lx := fun i j => by
            unfold cross
            rw [colTo_l]
            exact l1 _ n1 i j
          rx := r2 _ n2 }
      bd1 := fun t ht => ⟨fun i j => ?_, fun i j => Nat.lt_of_lt_of_le (l1 t ht i j) (pow_le hx), fun i j => ?_⟩
      bd2 := fun t ht => ⟨fun i j => ?_, fun i j => ?_, fun i j => Nat.lt_of_lt_of_le (r2 t ht i j) (pow_le hx)⟩
      row := fun j h1 h2 => by rw [EG2 s j hs h2, if_pos h1, e1s _ n1, e1s _ n1]
      col := fun i h1 h2 => by rw [EG2 i s h2 hw, if_neg (by omega), EG1 i s h2, if_pos h1]
      pv := by rw [EG2 s s hs hw, if_neg (by omega), e1s _ n1]
      still := fun j h1 h2 h3 i hi => by
        rw [EG2 i j hi h2, if_pos h1, h3, near_zero _ hp, EG1 i j hi, h3]
        split <;> simp
      calm := fun hc => ?_ }
  · rcases Nat.lt_or_ge i m with hi | hi
    case inr => rw [ent_out (rowTo_wr wr hs t ht).g (.inl hi)]; exact Nat.pow_pos (by decide)
    rcases Nat.lt_or_ge j w with hj | hj
    case inr => rw [ent_out (rowTo_wr wr hs t ht).g (.inr hj)]; exact Nat.pow_pos (by decide)
    by_cases h : i < s ∨ j < s
    · rw [out1 t ht i j hi hj h]; exact offV i j hi hj h
    · rw [G1 t ht]
      split
      · have := mb1.entry (i := i) (j := j) (by omega) hi (by omega) hj
        rw [EG1 i j hi, if_pos (by omega)] at this
        exact toE _ (Nat.le_trans this (pow_le (by omega)))
      · exact toE _ (Nat.le_trans (I.mb.entry (by omega) hi (by omega) hj) (pow_le (by omega)))
  · rw [rowTo_r]
    exact Nat.lt_of_lt_of_le (I.rx i j) (pow_le (by omega))
  · rcases Nat.lt_or_ge i m with hi | hi
    case inr => rw [ent_out (colTo_wr wr1 hw t ht).g (.inl hi)]; exact Nat.pow_pos (by decide)
    rcases Nat.lt_or_ge j w with hj | hj
    case inr => rw [ent_out (colTo_wr wr1 hw t ht).g (.inr hj)]; exact Nat.pow_pos (by decide)
    by_cases h : i < s ∨ j < s
    · rw [C_out t ht i j hi hj h]; exact offV i j hi hj h
    · rw [G2 t ht i j hi]
      split
      · have := mb2.entry (i := i) (j := j) (by omega) hi (by omega) hj
        rw [EG2 i j hi hj, if_pos (by omega)] at this
        rw [e1s _ n1]
        exact toE _ (Nat.le_trans this (pow_le hk))
      · exact toE _ (Nat.le_trans (mb1.entry (by omega) hi (by omega) hj) (pow_le (by omega)))
  · rw [colTo_l]
    exact Nat.lt_of_lt_of_le (l1 _ n1 i j) (pow_le hx)
  · -- no remainder: no growth
    have z1 : ∀ i, s < i → i < m → ent V.g i s - near (ent V.g i s) (ent V.g s s) * ent V.g s s = 0 := fun i h1 h2 => by
      rw [← hc.1 i h1 h2, EG2 i s h2 hw, if_neg (by omega), EG1 i s h2, if_pos h1]
    have z2 : ∀ j, s < j → j < w → ent V.g s j - near (ent V.g s j) (ent V.g s s) * ent V.g s s = 0 := fun j h1 h2 => by
      rw [← hc.2 j h1 h2, EG2 s j hs h2, if_pos h1, e1s _ n1, e1s _ n1]
    have a1 := phaseR (tau := 0) (lc' := 0) (by decide) (by simp) fun i h1 h2 => by rw [z1 i h1 h2]; simp
    exact phaseC a1 (tau := 0) (lc' := 0) (by decide) (by simp) fun j h1 h2 => by rw [z2 j h1 h2]; simp

theorem ent_addW {B : Mat} (h : WC m w B W) {k : Nat} (hs : s < m) (hk : k < m) (i j : Nat) : ent (addW W s k).g i j = if i = s then ent W.g s j + ent W.g k j else ent W.g i j := by
  show ent (tk W.g s (-1) k) i j = _
  rw [ent_tk h.rg hs hk]
  split
  · omega
  · rfl

/-- what is known at the loop's head -/
def Head (m w s k lc kf N : Nat) (g : Mat) : Prop :=
  (∃ h, stA m w s h g ∧ h * (m - s + 1) + (m - s) ≤ N ∧ k + 2 * lc * h ≤ kf) ∨
  (∃ h p Mk, stB m w s h p Mk g ∧ h * (m - s + 1) + (m - s - 1) ≤ N + Mk.length ∧ k + 2 * lc * h ≤ kf)
def Marks (m w s h N : Nat) (g : Mat) : Prop := h * (m - s + 1) + (m - s) ≤ N ∨ ∃ p Mk, stB m w s h p Mk g ∧ h * (m - s + 1) + (m - s - 1) ≤ N + Mk.length
/-- THE RUN of settle -/
theorem settle_ok {kd kf xf e lc : Nat} (hkap : m - s ≤ 2 ^ (lc + 1)) (hkd : kd ≤ kf) (he : xf ≤ e) (hke : kf < e) : ∀ (fuel N k x : Nat) (W : Wk), N ≤ fuel → SI m w B s k kd x W →
    Head m w s k lc kf N W.g → x + (kf + 3) * N ≤ xf → SOk e m w s fuel W (SPost m w B s kf xf) := by
  intro fuel
  induction fuel with
  | zero =>
    intro N k x W hN I st _
    have hs := I.sm
    exfalso
    rcases st with ⟨h, _, q, _⟩ | ⟨h, p, Mk, b, q, _⟩
    · omega
    · have hM : Mk.length ≤ m - s - 1 := nodup_len (s + 1) (m - s - 1) Mk b.nd fun i hi => by have := b.rng i hi; omega
      have : 1 ≤ h := by
        rcases Nat.eq_zero_or_pos h with h0 | h0
        · have h1 := b.h1
          have h2 := b.h0
          subst h0
          simp at h1 h2
          omega
        · exact h0
      have : 1 * (m - s + 1) ≤ h * (m - s + 1) := Nat.mul_le_mul_right _ this
      omega
  | succ fuel ih =>
    intro N k x W hN I st hx
    have hs := I.sm
    have hw := I.sw
    -- h is above 0; the number of runs left
    have ex : ∃ h, 1 ≤ h ∧ k + 2 * lc * h ≤ kf ∧ (h - 1) * (m - s + 1) + (m - s) + 1 ≤ N ∧ (∃ i j, (s ≤ i ∧ i < m ∧ s ≤ j ∧ j < w) ∧ ent W.g i j ≠ 0 ∧ (ent W.g i j).natAbs < 2 ^ h) ∧
        Marks m w s h N W.g := by
      rcases st with ⟨h, a, q, q2⟩ | ⟨h, p, Mk, b, q, q2⟩
      · have h1 : 1 ≤ h := by
          rcases Nat.eq_zero_or_pos h with h0 | h0
          · obtain ⟨i, j, _, a2, a3⟩ := a
            subst h0
            simp at a3
            exact absurd a3 a2
          · exact h0
        refine ⟨h, h1, q2, ?_, a, .inl q⟩
        have e1 : h = (h - 1) + 1 := by omega
        rw [e1, Nat.add_mul] at q
        omega
      · have hM : Mk.length ≤ m - s - 1 := nodup_len (s + 1) (m - s - 1) Mk b.nd fun i hi => by have := b.rng i hi; omega
        have h1 : 1 ≤ h := by
          rcases Nat.eq_zero_or_pos h with h0 | h0
          · have h1 := b.h1
            have h2 := b.h0
            subst h0
            simp at h1 h2
            omega
          · exact h0
        have p0 : 0 < p := by
          have := b.h0
          have : 0 < 2 ^ h := Nat.pow_pos (by decide)
          omega
        refine ⟨h, h1, q2, ?_, ⟨s, s, ⟨Nat.le_refl _, hs, Nat.le_refl _, hw⟩, ?_, by rw [b.pv]; exact b.h1⟩, .inr ⟨p, Mk, b, q⟩⟩
        · have e1 : h = (h - 1) + 1 := by omega
          rw [e1, Nat.add_mul] at q
          omega
        · intro z
          have := b.pv
          rw [z] at this
          simp at this
          omega
    obtain ⟨h, h1, hk, hN1, ⟨i0, j0, r0, n0, s0⟩, stt⟩ := ex
    have N1 : 1 ≤ N := by omega
    have hxN : x + (kf + 3) + (kf + 3) * (N - 1) ≤ xf := by
      have : (kf + 3) * N = (kf + 3) * (N - 1) + (kf + 3) := by
        rw [← Nat.mul_succ]
        congr 1
        omega
      omega
    have hk1 : k + 2 * lc ≤ kf := by
      have : 2 * lc * 1 ≤ 2 * lc * h := Nat.mul_le_mul_left _ h1
      omega
    have hk2 : k + 2 * lc + 2 * lc * (h - 1) ≤ kf := by
      have : 2 * lc * h = 2 * lc * (h - 1) + 2 * lc := by
        rw [← Nat.mul_succ]
        congr 1
        omega
      omega
    have hk3 : k + 2 * lc * (h - 1) ≤ kf := by omega
    refine ⟨fun z => n0 (z i0 j0 r0.1 r0.2.1 r0.2.2.1 r0.2.2.2), fun a b sm => ?_⟩
    obtain ⟨⟨a1, a2, b1, b2⟩, pn, pm, pl⟩ := sm
    obtain ⟨IV, EV⟩ := I.swap a1 a2 b1 b2
    have ssa : swp s a s = a := by unfold swp; rw [if_pos rfl]
    have ssb : swp s b s = b := by unfold swp; rw [if_pos rfl]
    have pV : ent (swapW W s a b).g s s = ent W.g a b := by rw [EV s s hs, ssa, ssb]
    have hp : ent (swapW W s a b).g s s ≠ 0 := by rw [pV]; exact pn
    have pB : (ent W.g a b).natAbs < 2 ^ h := Nat.lt_of_le_of_lt (pm i0 j0 r0.1 r0.2.1 r0.2.2.1 r0.2.2.2 n0) s0
    have F := cross_ok (e := e) (lc := lc) (kf := kf) (swapW W s a b) IV hp hkap hk1 hkd (by omega) hke
    have half : 2 ^ h = 2 * 2 ^ (h - 1) := by
      have e1 : h = (h - 1) + 1 := by omega
      rw [e1, Nat.pow_succ, Nat.mul_comm]
      simp
    -- what is left of the cross is at most half of the pivot
    have remS : ∀ v : Int, v ≠ 0 → (∃ u, v = u - near u (ent W.g a b) * ent W.g a b) → v.natAbs < 2 ^ (h - 1) := fun v _ ⟨u, hu⟩ => by
      have := near_ok u pn
      rw [← hu] at this
      omega
    have inc : ¬ Crossed (cross m w s (swapW W s a b)).g m w s → stA m w s (h - 1) (cross m w s (swapW W s a b)).g := fun nc => by
      by_cases q : ∃ i, s < i ∧ i < m ∧ ent (cross m w s (swapW W s a b)).g i s ≠ 0
      · obtain ⟨i, q1, q2, q3⟩ := q
        exact ⟨i, s, ⟨by omega, q2, Nat.le_refl _, hw⟩, q3, remS _ q3 ⟨ent (swapW W s a b).g i s, by rw [F.col i q1 q2, pV]⟩⟩
      · by_cases q' : ∃ j, s < j ∧ j < w ∧ ent (cross m w s (swapW W s a b)).g s j ≠ 0
        · obtain ⟨j, q1, q2, q3⟩ := q'
          exact ⟨s, j, ⟨Nat.le_refl _, hs, by omega, q2⟩, q3, remS _ q3 ⟨ent (swapW W s a b).g s j, by rw [F.row j q1 q2, pV]⟩⟩
        · refine absurd ⟨fun i h1 h2 => ?_, fun j h1 h2 => ?_⟩ nc
          · exact Decidable.not_not.mp fun z => q ⟨i, h1, h2, z⟩
          · exact Decidable.not_not.mp fun z => q' ⟨j, h1, h2, z⟩
    -- an item in the pivot's row that it does not divide: the cross is not empty
    have odd : ∀ j, s < j → j < w → ¬ ent W.g a b ∣ ent (swapW W s a b).g s j → ¬ Crossed (cross m w s (swapW W s a b)).g m w s := fun j q1 q2 nd cr => nd (by
      have := cr.2 j q1 q2
      rw [F.row j q1 q2, pV] at this
      exact ⟨near (ent (swapW W s a b).g s j) (ent W.g a b), by rw [Int.mul_comm]; omega⟩)
    refine ⟨hp, F.bd1, F.bd2, fun cr => ⟨fun un => ?_, fun k' un => ?_⟩, fun nc => ?_⟩
    · -- the end
      have C := F.si
      exact
        { wc := C.wc
          mb := (C.mb.sub (by omega) (Nat.le_refl _) (by omega) (Nat.le_refl _)).mono (pow_le (by omega))
          out := fun i j hi hj hh ne => by
            by_cases q : i < s ∨ j < s
            · exact C.out i j hi hj q ne
            · rcases (show i = s ∨ (i ≠ s ∧ j = s) by omega) with rfl | ⟨q1, rfl⟩
              · exact cr.2 j (by omega) hj
              · exact cr.1 i (by omega) hi
          dia := fun i hi => by
            rcases (show i < s ∨ i = s by omega) with q | rfl
            · exact ⟨(C.dia i q).1, Nat.le_trans (C.dia i q).2 (pow_le hkd)⟩
            · exact ⟨by rw [F.pv]; exact hp, Nat.le_trans (C.mb.entry (Nat.le_refl _) hs (Nat.le_refl _) hw) (pow_le hk1)⟩
          lx := fun i j => Nat.lt_of_lt_of_le (C.lx i j) (pow_le (by omega))
          rx := fun i j => Nat.lt_of_lt_of_le (C.rx i j) (pow_le (by omega)) }
    · -- a row added
      obtain ⟨u1, u2, ju, u3, u4, u5⟩ := un
      have C := F.si
      have EA := ent_addW C.wc hs u2
      have EAl : ∀ i j, ent (addW (cross m w s (swapW W s a b)) s k').l i j = if i = s then ent (cross m w s (swapW W s a b)).l s j + ent (cross m w s (swapW W s a b)).l k' j else ent (cross m w s (swapW W s a b)).l i j := fun i j => by
        show ent (tk _ s (-1) k') i j = _
        rw [ent_tk C.wc.rl hs u2]
        split
        · omega
        · rfl
      have IA : SI m w B s k kd (x + (kf + 3)) (addW (cross m w s (swapW W s a b)) s k') :=
        { wc := C.wc.row hs u2 (by omega)
          sm := hs, sw := hw
          mb := ((F.calm cr).uneven cr.1 cr.2 u1 u2).congr fun i j _ _ _ _ => EA i j
          out := fun i j hi hj hh ne => by
            rw [EA]
            split
            · rename_i q
              subst q
              rw [C.out i j hi hj hh ne, C.out k' j u2 hj (by omega) (by omega)]
              rfl
            · exact C.out i j hi hj hh ne
          dia := fun i hi => by
            rw [EA, if_neg (by omega)]
            exact C.dia i hi
          lx := fun i j => by
            rw [EAl]
            have e2 : 2 ^ (x + (kf + 3)) = 2 ^ (x + (kf + 2)) + 2 ^ (x + (kf + 2)) := by
              rw [show x + (kf + 3) = (x + (kf + 2)) + 1 by omega, Nat.pow_succ]
              omega
            split
            · have t1 := C.lx s j
              have t2 := C.lx k' j
              have := Int.natAbs_add_le (ent (cross m w s (swapW W s a b)).l s j) (ent (cross m w s (swapW W s a b)).l k' j)
              omega
            · exact Nat.lt_of_lt_of_le (C.lx i j) (pow_le (by omega))
          rx := fun i j => Nat.lt_of_lt_of_le (C.rx i j) (pow_le (by omega)) }
      have pA : ent (addW (cross m w s (swapW W s a b)) s k').g s s = ent W.g a b := by
        rw [EA, if_pos rfl, F.pv, pV, cr.1 k' u1 u2]
        omega
      have colA : ∀ i, s < i → i < m → ent (addW (cross m w s (swapW W s a b)) s k').g i s = 0 := fun i h1 h2 => by
        rw [EA, if_neg (by omega)]
        exact cr.1 i h1 h2
      refine (ih (N - 1) k (x + (kf + 3)) _ (by omega) IA ?_ hxN)
      rcases Nat.lt_or_ge (ent W.g a b).natAbs (2 ^ (h - 1)) with small | big
      · -- halved
        exact .inl ⟨h - 1, ⟨s, s, ⟨Nat.le_refl _, hs, Nat.le_refl _, hw⟩, by rw [pA]; exact pn, by rw [pA]; exact small⟩, by omega, hk3⟩
      · have oddA : ∃ j, s < j ∧ j < w ∧ ¬ ent (addW (cross m w s (swapW W s a b)) s k').g s s ∣ ent (addW (cross m w s (swapW W s a b)) s k').g s j := by
          refine ⟨ju, u3, u4, ?_⟩
          rw [pA, EA, if_pos rfl, cr.2 ju u3 u4, Int.zero_add]
          rw [F.pv, pV] at u5
          exact u5
        rcases stt with q | ⟨p, Mk, b', q⟩
        · -- no marks yet
          refine .inr ⟨h, (ent W.g a b).natAbs, [], ?_, ?_, hk⟩
          · exact { h0 := by omega, h1 := pB, pv := by rw [pA], col := colA, odd := oddA, nd := by simp, rng := fun i hi => by simp at hi, mks := fun i hi => by simp at hi }
          · simp only [List.length_nil]; omega
        · have p0 : 0 < p := by
            have := b'.h0
            have : 0 < 2 ^ h := Nat.pow_pos (by decide)
            omega
          have pss : ent W.g s s ≠ 0 := by
            intro z
            have := b'.pv
            rw [z] at this
            simp at this
            omega
          -- the pivot is another one, below p
          have ne : ¬ (a = s ∧ b = s) := fun ⟨e1, e2⟩ => by
            have ida : ∀ i : Nat, swp s a i = i := fun i => by rw [e1]; unfold swp; split <;> simp_all
            have idb : ∀ i : Nat, swp s b i = i := fun i => by rw [e2]; unfold swp; split <;> simp_all
            obtain ⟨j, j1, j2, j3⟩ := b'.odd
            refine odd j j1 j2 ?_ cr
            rw [EV s j hs, ida, idb, e1, e2]
            exact j3
          have lt : (ent W.g a b).natAbs < p := by
            rcases pl with q1 | q1 | q1
            · exact absurd q1 ne
            · exact absurd q1 pss
            · rw [b'.pv] at q1; exact q1
          have h2p := b'.h0
          have hp1 := b'.h1
          -- not in the pivot's row
          have as_ : a ≠ s := fun e1 => by
            have bs : b ≠ s := fun e2 => ne ⟨e1, e2⟩
            refine odd b (by omega) b2 ?_ cr
            have : ent (swapW W s a b).g s b = ent W.g s s := by
              rw [EV s b hs, ssa, e1]
              congr 1
              unfold swp
              rw [if_neg bs, if_pos rfl]
            rw [this]
            exact not_dvd_of rfl b'.pv lt (by omega)
          have bs_ : b ≠ s := fun e1 => pn (by rw [e1]; exact b'.col a (by omega) a2)
          -- marked columns have nothing in row a
          have mcol : ∀ i ∈ Mk, ∃ j f, s < j ∧ j < w ∧ j ≠ b ∧ p < f ∧ f < 2 ^ h ∧ (ent W.g i j).natAbs = f ∧ (∀ i', s ≤ i' → i' < m → ent W.g i' j = 0 ∨ (ent W.g i' j).natAbs = f) ∧ ent W.g a j = 0 := fun i hi => by
            obtain ⟨j, f, j1, j2, j3, j4, j5, j6⟩ := b'.mks i hi
            have jb : j ≠ b := fun e1 => by
              subst e1
              rcases j6 a (by omega) a2 with z | z
              · exact pn z
              · omega
            refine ⟨j, f, j1, j2, jb, j3, j4, j5, j6, ?_⟩
            rcases j6 a (by omega) a2 with z | z
            · exact z
            · exfalso
              refine odd j j1 j2 ?_ cr
              have : ent (swapW W s a b).g s j = ent W.g a j := by
                rw [EV s j hs, ssa]
                congr 1
                unfold swp
                rw [if_neg (by omega), if_neg jb]
              rw [this]
              exact not_dvd_of rfl z (by omega) (by omega)
          have amk : a ∉ Mk := fun hi => by
            obtain ⟨j, f, _, _, _, j3, _, j5, _, j7⟩ := mcol a hi
            rw [j7] at j5
            simp at j5
            omega
          refine .inr ⟨h, (ent W.g a b).natAbs, a :: Mk, ?_, ?_, hk⟩
          · refine { h0 := by omega, h1 := pB, pv := by rw [pA], col := colA, odd := oddA, nd := List.nodup_cons.mpr ⟨amk, b'.nd⟩, rng := fun i hi => ?_, mks := fun i hi => ?_ }
            · rcases List.mem_cons.mp hi with rfl | hi
              · exact ⟨by omega, a2⟩
              · exact b'.rng i hi
            · rcases List.mem_cons.mp hi with e1 | hi
              · -- the old pivot's column
                have Eb : ∀ i', s ≤ i' → i' < m → ent (swapW W s a b).g i' b = if i' = a then ent W.g s s else 0 := fun i' h1 h2 => by
                  rw [EV i' b h2]
                  have : swp s b b = s := by
                    unfold swp
                    rw [if_neg bs_, if_pos rfl]
                  rw [this]
                  unfold swp
                  by_cases c1 : i' = s
                  · rw [if_pos c1, if_neg (by omega)]
                    exact b'.col a (by omega) a2
                  · rw [if_neg c1]
                    by_cases c2 : i' = a
                    · rw [if_pos c2, if_pos c2]
                    · rw [if_neg c2, if_neg c2]
                      exact b'.col i' (by omega) h2
                have Sb := F.still b (by omega) b2 (by rw [Eb s (Nat.le_refl _) hs, if_neg (by omega)])
                refine ⟨b, p, by omega, b2, lt, hp1, ?_, fun i' h1 h2 => ?_⟩
                · rw [e1, EA, if_neg as_, Sb a a2, Eb a a1 a2, if_pos rfl]
                  exact b'.pv
                · rw [EA]
                  split
                  · rw [Sb s hs, Sb k' u2, Eb s (Nat.le_refl _) hs, if_neg (by omega), Eb k' (by omega) u2]
                    split
                    · right; rw [Int.zero_add]; exact b'.pv
                    · left; rfl
                  · rw [Sb i' h2, Eb i' h1 h2]
                    split
                    · right; exact b'.pv
                    · left; rfl
              · obtain ⟨j, f, j1, j2, jb, j3, j4, j5, j6, j7⟩ := mcol i hi
                have ri := b'.rng i hi
                have ia : i ≠ a := fun e1 => amk (e1 ▸ hi)
                have Ej : ∀ i', s ≤ i' → i' < m → ent (swapW W s a b).g i' j = ent W.g (swp s a i') j := fun i' h1 h2 => by
                  rw [EV i' j h2]
                  congr 1
                  unfold swp
                  rw [if_neg (by omega), if_neg jb]
                have Sj := F.still j j1 j2 (by rw [Ej s (Nat.le_refl _) hs, ssa]; exact j7)
                have Tj : ∀ i', s ≤ i' → i' < m → ent (swapW W s a b).g i' j = 0 ∨ (ent (swapW W s a b).g i' j).natAbs = f := fun i' h1 h2 => by
                  rw [Ej i' h1 h2]
                  refine j6 _ ?_ (swp_lt hs a2 h2)
                  unfold swp
                  repeat' split <;> try omega
                refine ⟨j, f, j1, j2, by omega, j4, ?_, fun i' h1 h2 => ?_⟩
                · rw [EA, if_neg (by omega), Sj i ri.2, Ej i (by omega) ri.2]
                  have : swp s a i = i := by unfold swp; rw [if_neg (by omega), if_neg ia]
                  rw [this]
                  exact j5
                · rw [EA]
                  split
                  · rw [Sj s hs, Sj k' u2, Ej s (Nat.le_refl _) hs, ssa, j7, Int.zero_add]
                    exact Tj k' (by omega) u2
                  · rw [Sj i' h2]
                    exact Tj i' h1 h2
          · simp only [List.length_cons]; omega
    · -- not empty: halved
      have C := F.si
      have IC : SI m w B s (k + 2 * lc) kd (x + (kf + 3)) (cross m w s (swapW W s a b)) :=
        { C with lx := fun i j => Nat.lt_of_lt_of_le (C.lx i j) (pow_le (by omega)), rx := fun i j => Nat.lt_of_lt_of_le (C.rx i j) (pow_le (by omega)) }
      exact ih (N - 1) (k + 2 * lc) (x + (kf + 3)) _ (by omega) IC (.inl ⟨h - 1, inc nc, by omega, hk2⟩) hxN
end
end K51

set_option maxHeartbeats 200000
/-! The whole Smith form; the start; what it gives. -/
namespace K51
def negS (W : Wk) (s : Nat) : Wk := if ent W.g s s < 0 then ⟨negR W.g s, negR W.l s, W.r⟩ else W
/-- the loop of smith_of as a predicate -/
def MOk (e m w : Nat) : Nat → Nat → Wk → (Wk → Prop) → Prop
  | 0, _, W, Post => Post W
  | r + 1, s, W, Post => ∃ n, SOk e m w s n W fun W' => MOk e m w r (s + 1) (negS W' s) Post
theorem SOk.mono {e m w s : Nat} {P Q : Wk → Prop} (hPQ : ∀ W, P W → Q W) : ∀ {n : Nat} {W : Wk}, SOk e m w s n W P → SOk e m w s n W Q
  | 0, _, h => h
  | _ + 1, _, ⟨h1, h2⟩ => ⟨h1, fun k j hs => ⟨(h2 k j hs).1, (h2 k j hs).2.1, (h2 k j hs).2.2.1, fun c => ⟨fun u => hPQ _ (((h2 k j hs).2.2.2.1 c).1 u), fun k' u => SOk.mono hPQ (((h2 k j hs).2.2.2.1 c).2 k' u)⟩, fun c => SOk.mono hPQ ((h2 k j hs).2.2.2.2 c)⟩⟩

structure SNum (m e : Nat) (lc HS KS XS : Nat → Nat) : Prop where
  lcc : ∀ s, s < m → m - s ≤ 2 ^ (lc s + 1)
  kk : ∀ s, KS s + 2 * lc s * HS s ≤ KS (s + 1)
  hh : ∀ s, KS (s + 1) + 1 ≤ HS (s + 1)
  xx : ∀ s, s < m → XS s + (KS (s + 1) + 3) * (HS s * (m - s + 1) + (m - s)) ≤ XS (s + 1)
  xe : ∀ s, s ≤ m → XS s ≤ e
  ke : ∀ s, s ≤ m → KS s < e
structure SS (m w : Nat) (B : Mat) (HS KS XS : Nat → Nat) (s : Nat) (W : Wk) : Prop where
  wc : WC m w B W
  mb : MB (2 ^ KS s) s m s w (ent W.g)
  out : ∀ i j, i < m → j < w → (i < s ∨ j < s) → i ≠ j → ent W.g i j = 0
  dia : ∀ i, i < s → ent W.g i i ≠ 0 ∧ (ent W.g i i).natAbs ≤ 2 ^ KS s
  lx : ∀ i j, (ent W.l i j).natAbs < 2 ^ XS s
  rx : ∀ i j, (ent W.r i j).natAbs < 2 ^ XS s
  sml : s < m → stA m w s (HS s) W.g

theorem vdot_one (k : Nat) (a : Vec) : ∀ n, vdot n (fun i => if i = k then 1 else 0) a = if k < n then a k else 0
  | 0 => rfl
  | n + 1 => by
    simp only [vdot]
    rw [vdot_one k a n]
    by_cases e : n = k
    · subst e
      rw [if_neg (by omega), if_pos rfl, if_pos (by omega)]
      grind
    · rw [if_neg e]
      by_cases h : k < n
      · rw [if_pos h, if_pos (by omega)]; grind
      · rw [if_neg h, if_neg (by omega)]; grind

section
variable {m w e : Nat} {B : Mat} {lc HS KS XS : Nat → Nat}
theorem negS_wc {W : Wk} (h : WC m w B W) {s : Nat} (hs : s < m) : WC m w B (negS W s) := by
  unfold negS
  split
  · exact h.neg hs
  · exact h
theorem negS_g {W : Wk} (h : WC m w B W) {s : Nat} (hs : s < m) (i j : Nat) : ent (negS W s).g i j = if i = s ∧ ent W.g s s < 0 then - ent W.g s j else ent W.g i j := by
  unfold negS
  split
  · rename_i hn
    show ent (negR W.g s) i j = _
    rw [ent_negR h.rg hs]
    by_cases e : i = s
    · rw [if_pos e, if_pos ⟨e, hn⟩]
    · rw [if_neg e, if_neg (fun q => e q.1)]
  · rename_i hn
    rw [if_neg (fun q => hn q.2)]
theorem negS_abs {W : Wk} (h : WC m w B W) {s : Nat} (hs : s < m) (i j : Nat) : (ent (negS W s).g i j).natAbs = (ent W.g i j).natAbs := by
  rw [negS_g h hs]
  split
  · rename_i q; rw [Int.natAbs_neg, q.1]
  · rfl
theorem negS_labs {W : Wk} (h : WC m w B W) {s : Nat} (hs : s < m) (i j : Nat) : (ent (negS W s).l i j).natAbs = (ent W.l i j).natAbs := by
  unfold negS
  split
  · show (ent (negR W.l s) i j).natAbs = _
    rw [ent_negR h.rl hs]
    split
    · rename_i q; rw [Int.natAbs_neg, q]
    · rfl
  · rfl
theorem negS_r {W : Wk} {s : Nat} : (negS W s).r = W.r := by unfold negS; split <;> rfl

theorem smith_ok (N : SNum m e lc HS KS XS) (hmw : m ≤ w) : ∀ (r s : Nat) (W : Wk), s + r = m → SS m w B HS KS XS s W → MOk e m w r s W (SS m w B HS KS XS m)
  | 0, s, W, h, S => by
    have : s = m := by omega
    subst this
    exact S
  | r + 1, s, W, h, S => by
    have hs : s < m := by omega
    have I : SI m w B s (KS s) (KS s) (XS s) W := { wc := S.wc, sm := hs, sw := by omega, mb := S.mb, out := S.out, dia := S.dia, lx := S.lx, rx := S.rx }
    refine ⟨HS s * (m - s + 1) + (m - s), ?_⟩
    refine (settle_ok (kd := KS s) (kf := KS (s + 1)) (xf := XS (s + 1)) (e := e) (lc := lc s) (N.lcc s hs) (by have := N.kk s; omega) (N.xe (s + 1) hs) (N.ke (s + 1) hs) _ _ (KS s) (XS s) W (Nat.le_refl _) I (.inl ⟨HS s, S.sml hs, Nat.le_refl _, N.kk s⟩) (N.xx s hs)).mono fun W' P => ?_
    have A := negS_abs P.wc hs
    have G := negS_g P.wc hs
    have z : ∀ i j, ent W'.g i j = 0 → ent (negS W' s).g i j = 0 := fun i j q => by
      have := A i j
      rw [q] at this
      simpa using this
    have nz : ∀ i j, ent W'.g i j ≠ 0 → ent (negS W' s).g i j ≠ 0 := fun i j q q2 => q (by
      have := A i j
      rw [q2] at this
      simpa using this.symm)
    have wc' := negS_wc P.wc hs
    have mb' : MB (2 ^ KS (s + 1)) (s + 1) m (s + 1) w (ent (negS W' s).g) := P.mb.congr fun i j h1 _ _ _ => by rw [G, if_neg (by omega)]
    have out' : ∀ i j, i < m → j < w → (i < s + 1 ∨ j < s + 1) → i ≠ j → ent (negS W' s).g i j = 0 := fun i j a b c d => z i j (P.out i j a b c d)
    refine smith_ok N hmw r (s + 1) _ (by omega)
      { wc := wc', mb := mb', out := out'
        dia := fun i hi => ⟨nz i i (P.dia i hi).1, by rw [A]; exact (P.dia i hi).2⟩
        lx := fun i j => by rw [negS_labs P.wc hs]; exact P.lx i j
        rx := fun i j => by rw [negS_r]; exact P.rx i j
        sml := fun hs1 => ?_ }
    -- something is left, for the rows are independent
    by_cases q : ∃ j, s + 1 ≤ j ∧ j < w ∧ ent (negS W' s).g (s + 1) j ≠ 0
    · obtain ⟨j, q1, q2, q3⟩ := q
      exact ⟨s + 1, j, ⟨Nat.le_refl _, hs1, q1, q2⟩, q3, Nat.lt_of_le_of_lt (mb'.entry (Nat.le_refl _) hs1 q1 q2) (pow_lt (by have := N.hh s; omega))⟩
    · exfalso
      have := wc'.ind (fun i => if i = s + 1 then 1 else 0) (fun j hj => by
        rw [vdot_one, if_pos hs1]
        have : ent (negS W' s).g (s + 1) j = 0 := by
          rcases Nat.lt_or_ge j (s + 1) with h1 | h1
          · exact out' (s + 1) j hs1 hj (.inr h1) (by omega)
          · exact Decidable.not_not.mp fun z => q ⟨j, h1, hj, z⟩
        rw [this]
        rfl) (s + 1) hs1
      simp only [if_true] at this
      grind
end

/-! ### the start -/
def idm (n : Nat) : Mat := (List.range n).map fun k => (List.range n).map fun j => if j = k then 1 else 0
theorem idm_rect (n : Nat) : Rect n n (idm n) := ⟨by simp [idm], fun r hr => by
  obtain ⟨k, _, rfl⟩ := List.mem_map.mp hr
  simp⟩
theorem idm_row {n i : Nat} (hi : i < n) : (idm n).getD i [] = (List.range n).map fun j => if j = i then 1 else 0 := by
  unfold idm
  simp [List.getD_eq_getElem?_getD, hi]
theorem idm_ent (n i j : Nat) : ent (idm n) i j = if i < n ∧ i = j then 1 else 0 := by
  rcases Nat.lt_or_ge i n with hi | hi
  · unfold ent
    rw [idm_row hi]
    rcases Nat.lt_or_ge j n with hj | hj
    · simp [List.getD_eq_getElem?_getD, hj, hi]
      by_cases e : j = i
      · rw [if_pos e, if_pos e.symm]
      · rw [if_neg e, if_neg (Ne.symm e)]
    · simp [List.getD_eq_getElem?_getD]
      rw [List.getElem?_eq_none (by simpa using hj), if_neg (by omega)]
      rfl
  · rw [ent_out (idm_rect n) (.inl hi), if_neg (by omega)]
theorem idm_rdot {n i : Nat} (hi : i < n) (v : Vec) : rdot ((idm n).getD i []) v = v i := by
  rw [rdot_vdot, idm_row hi]
  have e : ∀ j, j < n → (((List.range n).map fun j => if j = i then (1 : Int) else 0).getD j 0 : Rat) = if j = i then 1 else 0 := fun j hj => by
    simp [List.getD_eq_getElem?_getD, hj]
    split <;> rfl
  rw [List.length_map, List.length_range, vdot_congr n e (fun _ _ => rfl), vdot_one, if_pos hi]
theorem start_wc {m w : Nat} {B : Mat} (h : Rect m w B) (hi : ∀ y : Vec, (∀ j, j < w → vdot m y (fun i => (ent B i j : Rat)) = 0) → ∀ i, i < m → y i = 0) : WC m w B ⟨B, idm m, idm w⟩ where
  rg := h
  rl := idm_rect m
  rr := idm_rect w
  eq := fun i j hi hj => by
    show (ent B i j : Rat) = rdot ((idm m).getD i []) (bv B (rv (idm w) j))
    rw [idm_rdot hi]
    unfold bv
    rw [rdot_vdot, h.row hi]
    have : vdot w (fun k => ((B.getD i []).getD k 0 : Rat)) (rv (idm w) j) = vdot w (fun c => if c = j then 1 else 0) (fun k => ((B.getD i []).getD k 0 : Rat)) := by
      have comm : ∀ (n : Nat) (a b : Vec), vdot n a b = vdot n b a := by
        intro n
        induction n with
        | zero => intro _ _; rfl
        | succ n ih => intro a b; simp only [vdot]; rw [ih]; grind
      rw [comm]
      refine vdot_congr w (fun c hc => ?_) fun _ _ => rfl
      unfold rv
      rw [idm_ent]
      by_cases e : c = j
      · rw [if_pos ⟨hj, e.symm⟩, if_pos e]; rfl
      · rw [if_neg (fun q => e q.2.symm), if_neg e]; rfl
    rw [this, vdot_one, if_pos hj]
    rfl
  linj := fun v hv k hk => by
    have := hv k (by rw [(idm_rect m).1]; exact hk)
    rwa [idm_rdot hk] at this
  span := fun x => ⟨x, fun c hc => by
    have : vdot w x (fun j => (ent (idm w) j c : Rat)) = vdot w (fun j => if j = c then 1 else 0) x := by
      have comm : ∀ (n : Nat) (a b : Vec), vdot n a b = vdot n b a := by
        intro n
        induction n with
        | zero => intro _ _; rfl
        | succ n ih => intro a b; simp only [vdot]; rw [ih]; grind
      rw [comm]
      refine vdot_congr w (fun j hj => ?_) fun _ _ => rfl
      rw [idm_ent]
      by_cases e : j = c
      · rw [if_pos ⟨hj, e⟩, if_pos e]; rfl
      · rw [if_neg (fun q => e q.2), if_neg e]; rfl
    show x c = vdot w x (fun j => (ent (idm w) j c : Rat))
    rw [this, vdot_one, if_pos hc]⟩
  ind := hi
end K51

set_option maxHeartbeats 200000
/-! Answers to equations and the kernel, out of the Hermite and the Smith form. -/
namespace K51
/-! ### rows in two parts -/
theorem rdot_append : ∀ (a b : List Int) (v : Vec), rdot (a ++ b) v = rdot a v + rdot b (fun j => v (j + a.length))
  | [], b, v => by
    show rdot b v = 0 + rdot b v
    grind
  | x :: a, b, v => by
    simp only [List.cons_append, rdot]
    rw [rdot_append a b (fun j => v (j + 1))]
    have : (fun j => v (j + (x :: a).length)) = (fun j => (fun j => v (j + 1)) (j + a.length)) := by
      funext j
      simp only [List.length_cons]
      congr 1
    rw [this]
    grind
theorem rdot_zero : ∀ (r : List Int), rdot r (fun _ => 0) = 0
  | [] => rfl
  | a :: r => by
    simp only [rdot]
    rw [rdot_zero r]
    grind
theorem rdot_one (r : List Int) (k : Nat) : rdot r (fun j => if j = k then 1 else 0) = (r.getD k 0 : Rat) := by
  rw [rdot_vdot]
  have comm : ∀ (n : Nat) (a b : Vec), vdot n a b = vdot n b a := by
    intro n
    induction n with
    | zero => intro _ _; rfl
    | succ n ih => intro a b; simp only [vdot]; rw [ih]; grind
  rw [comm, vdot_one]
  split
  · rfl
  · rename_i h
    simp only [List.getD_eq_getElem?_getD]
    rw [List.getElem?_eq_none (by omega)]
    rfl
/-- [A | I] -/
def augm (m : Nat) (A : Mat) : Mat := List.zipWith (fun a b => a ++ b) A (idm m)
theorem augm_rect {m w : Nat} {A : Mat} (h : Rect m w A) : Rect m (w + m) (augm m A) := by
  refine ⟨?_, fun r hr => ?_⟩
  · unfold augm
    rw [List.length_zipWith, h.1, (idm_rect m).1]; exact Nat.min_self _
  · unfold augm at hr
    obtain ⟨i, hi, rfl⟩ := List.mem_iff_getElem.mp hr
    rw [List.getElem_zipWith, List.length_append]
    rw [h.2 _ (List.getElem_mem _), (idm_rect m).2 _ (List.getElem_mem _)]
theorem augm_row {m w : Nat} {A : Mat} (h : Rect m w A) {i : Nat} (hi : i < m) : (augm m A).getD i [] = A.getD i [] ++ (idm m).getD i [] := by
  unfold augm
  have h1 : i < A.length := by rw [h.1]; exact hi
  have h2 : i < (idm m).length := by rw [(idm_rect m).1]; exact hi
  simp [List.getD_eq_getElem?_getD, List.getElem?_zipWith, h1, h2]

def topOf (w : Nat) (H : Mat) : Mat := H.map fun r => r.take w
def lefOf (w : Nat) (H : Mat) : Mat := H.map fun r => r.drop w
theorem topOf_rect {m w n : Nat} {H : Mat} (h : Rect m (w + n) H) : Rect m w (topOf w H) := ⟨by unfold topOf; rw [List.length_map]; exact h.1, fun r hr => by
  unfold topOf at hr
  obtain ⟨x, hx, rfl⟩ := List.mem_map.mp hr
  rw [List.length_take, h.2 x hx]
  omega⟩
theorem lefOf_rect {m w n : Nat} {H : Mat} (h : Rect m (w + n) H) : Rect m n (lefOf w H) := ⟨by unfold lefOf; rw [List.length_map]; exact h.1, fun r hr => by
  unfold lefOf at hr
  obtain ⟨x, hx, rfl⟩ := List.mem_map.mp hr
  rw [List.length_drop, h.2 x hx]
  omega⟩
theorem topOf_row {m w n : Nat} {H : Mat} (h : Rect m (w + n) H) {i : Nat} (hi : i < m) : (topOf w H).getD i [] = (H.getD i []).take w := getD_map _ _ _ (by rw [h.1]; exact hi)
theorem lefOf_row {m w n : Nat} {H : Mat} (h : Rect m (w + n) H) {i : Nat} (hi : i < m) : (lefOf w H).getD i [] = (H.getD i []).drop w := getD_map _ _ _ (by rw [h.1]; exact hi)
theorem topOf_ent {m w n : Nat} {H : Mat} (h : Rect m (w + n) H) (i j : Nat) (hj : j < w) : ent (topOf w H) i j = ent H i j := by
  rcases Nat.lt_or_ge i m with hi | hi
  · unfold ent
    rw [topOf_row h hi]
    simp [List.getD_eq_getElem?_getD, List.getElem?_take, hj]
  · rw [ent_out (topOf_rect h) (.inl hi), ent_out h (.inl hi)]
theorem lefOf_ent {m w n : Nat} {H : Mat} (h : Rect m (w + n) H) (i j : Nat) : ent (lefOf w H) i j = ent H i (w + j) := by
  rcases Nat.lt_or_ge i m with hi | hi
  · unfold ent
    rw [lefOf_row h hi]
    simp [List.getD_eq_getElem?_getD]
  · rw [ent_out (lefOf_rect h) (.inl hi), ent_out h (.inl hi)]

/-- what the rows of [A | I] become under row steps: top = lef A, lef loses nothing -/
structure LA (m w : Nat) (A top lef : Mat) : Prop where
  rt : Rect m w top
  rl : Rect m m lef
  eq : ∀ i, i < m → ∀ x : Vec, rdot (top.getD i []) x = rdot (lef.getD i []) (bv A x)
  inj : ∀ v : Vec, Ker lef v → ∀ k, k < m → v k = 0
theorem la_of {m w : Nat} {A H : Mat} (hA : Rect m w A) (h : Rect m (w + m) H) (hk : ∀ v, Ker H v ↔ Ker (augm m A) v) : LA m w A (topOf w H) (lefOf w H) := by
  have parts : ∀ i, i < m → ∀ v : Vec, rdot (H.getD i []) v = rdot ((topOf w H).getD i []) v + rdot ((lefOf w H).getD i []) (fun j => v (j + w)) := fun i hi v => by
    rw [topOf_row h hi, lefOf_row h hi]
    have e : (H.getD i []) = (H.getD i []).take w ++ (H.getD i []).drop w := (List.take_append_drop _ _).symm
    have el : ((H.getD i []).take w).length = w := by rw [List.length_take, h.row hi]; omega
    have := rdot_append ((H.getD i []).take w) ((H.getD i []).drop w) v
    rw [el, ← e] at this
    exact this
  have partsA : ∀ i, i < m → ∀ v : Vec, rdot ((augm m A).getD i []) v = rdot (A.getD i []) v + v (i + w) := fun i hi v => by
    rw [augm_row hA hi, rdot_append, hA.row hi, idm_rdot hi]
  refine { rt := topOf_rect h, rl := lefOf_rect h, eq := fun i hi x => ?_, inj := fun v hv k hkm => ?_ }
  · have hker : Ker (augm m A) (fun j => if j < w then x j else - bv A x (j - w)) := fun i hi => by
      rw [(augm_rect hA).1] at hi
      rw [partsA i hi, if_neg (by omega), Nat.add_sub_cancel]
      have : rdot (A.getD i []) (fun j => if j < w then x j else - bv A x (j - w)) = rdot (A.getD i []) x := rdot_congr _ _ _ fun j hj => by
        rw [hA.row hi] at hj
        rw [if_pos hj]
      rw [this]
      unfold bv
      grind
    have := (hk _).mpr hker i (by rw [h.1]; exact hi)
    rw [parts i hi] at this
    have e1 : rdot ((topOf w H).getD i []) (fun j => if j < w then x j else - bv A x (j - w)) = rdot ((topOf w H).getD i []) x := rdot_congr _ _ _ fun j hj => by
      rw [(topOf_rect h).row hi] at hj
      rw [if_pos hj]
    have e2 : rdot ((lefOf w H).getD i []) (fun j => (fun j => if j < w then x j else - bv A x (j - w)) (j + w)) = - rdot ((lefOf w H).getD i []) (bv A x) := by
      have a1 := rdot_sub 1 ((lefOf w H).getD i []) (fun _ => 0) (bv A x)
      rw [rdot_zero] at a1
      have a2 : rdot ((lefOf w H).getD i []) (fun j => (fun j => if j < w then x j else - bv A x (j - w)) (j + w)) = rdot ((lefOf w H).getD i []) (fun j => 0 - 1 * bv A x j) := rdot_congr _ _ _ fun j _ => by
        simp only [if_neg (show ¬ j + w < w by omega), Nat.add_sub_cancel]
        grind
      rw [a2, a1]
      grind
    rw [e1, e2] at this
    grind
  · have hker : Ker H (fun j => if j < w then 0 else v (j - w)) := fun i hi => by
      rw [h.1] at hi
      rw [parts i hi]
      have e1 : rdot ((topOf w H).getD i []) (fun j => if j < w then 0 else v (j - w)) = 0 := by
        refine (rdot_congr _ _ _ fun j hj => ?_).trans (rdot_zero _)
        rw [(topOf_rect h).row hi] at hj
        rw [if_pos hj]
      have e2 : rdot ((lefOf w H).getD i []) (fun j => (fun j => if j < w then 0 else v (j - w)) (j + w)) = rdot ((lefOf w H).getD i []) v := rdot_congr _ _ _ fun j _ => by
        simp only [if_neg (show ¬ j + w < w by omega), Nat.add_sub_cancel]
      rw [e1, e2, hv i (by rw [(lefOf_rect h).1]; exact hi)]
      grind
    have := (hk _).mp hker k (by rw [(augm_rect hA).1]; exact hkm)
    rw [partsA k hkm] at this
    have e1 : rdot (A.getD k []) (fun j => if j < w then 0 else v (j - w)) = 0 := by
      refine (rdot_congr _ _ _ fun j hj => ?_).trans (rdot_zero _)
      rw [hA.row hkm] at hj
      rw [if_pos hj]
    rw [e1, if_neg (by omega), Nat.add_sub_cancel] at this
    grind

/-- rows in a staircase are independent -/
theorem stair_ind {m w s : Nat} {B : Mat} {pc : Nat → Nat} (hs : s ≤ m) (hw : ∀ i, i < s → pc i < w) (st : ∀ i, i < s → 0 < ent B i (pc i) ∧ ∀ j, j < pc i → ent B i j = 0) (inc : ∀ i i', i < i' → i' < s → pc i < pc i') :
    ∀ y : Vec, (∀ j, j < w → vdot s y (fun i => (ent B i j : Rat)) = 0) → ∀ i, i < s → y i = 0 := by
  intro y hy
  have : ∀ n i, i < n → i < s → y i = 0 := by
    intro n
    induction n with
    | zero => intro i h; omega
    | succ n ih =>
      intro i hi his
      rcases Nat.lt_or_ge i n with h | h
      · exact ih i h his
      · have e : i = n := by omega
        subst e
        have c := hy (pc i) (hw i his)
        -- only row i counts
        have only : ∀ k, k ≤ s → vdot k y (fun t => (ent B t (pc i) : Rat)) = if i < k then y i * (ent B i (pc i) : Rat) else 0 := by
          intro k
          induction k with
          | zero => intro _; rfl
          | succ k ihk =>
            intro hk
            simp only [vdot]
            rw [ihk (by omega)]
            rcases Nat.lt_trichotomy k i with h1 | h1 | h1
            · rw [if_neg (by omega), if_neg (by omega), ih k h1 (by omega)]; grind
            · subst h1
              rw [if_neg (by omega), if_pos (by omega)]; grind
            · have z : ent B k (pc i) = 0 := (st k (by omega)).2 _ (inc i k h1 (by omega))
              rw [if_pos h1, if_pos (by omega), z]
              grind
        rw [only s (Nat.le_refl _), if_pos his] at c
        have nz : (ent B i (pc i) : Rat) ≠ 0 := fun z => by
          have := (st i his).1
          have z' : ent B i (pc i) = 0 := by
            have : ((ent B i (pc i) : Int) : Rat) = ((0 : Int) : Rat) := z
            exact Rat.intCast_inj.mp this
          omega
        grind
  exact fun i hi => this (i + 1) i (by omega) hi

/-! ### the Smith form's end -/
structure SmEnd (m w kd xd : Nat) (B : Mat) (W : Wk) : Prop where
  wc : WC m w B W
  off : ∀ i j, i < m → j < w → i ≠ j → ent W.g i j = 0
  dia : ∀ i, i < m → ent W.g i i ≠ 0 ∧ (ent W.g i i).natAbs ≤ 2 ^ kd
  lx : ∀ i j, (ent W.l i j).natAbs < 2 ^ xd
  rx : ∀ i j, (ent W.r i j).natAbs < 2 ^ xd
theorem SS.fin {m w : Nat} {B : Mat} {HS KS XS : Nat → Nat} {W : Wk} (S : SS m w B HS KS XS m W) : SmEnd m w (KS m) (XS m) B W :=
  { wc := S.wc, off := fun i j hi hj => S.out i j hi hj (.inl hi), dia := S.dia, lx := S.lx, rx := S.rx }

theorem vdot_comm : ∀ (n : Nat) (a b : Vec), vdot n a b = vdot n b a
  | 0, _, _ => rfl
  | n + 1, a, b => by simp only [vdot]; rw [vdot_comm n]; grind
theorem bv_out {m w : Nat} {B : Mat} (hB : Rect m w B) (x : Vec) {t : Nat} (ht : m ≤ t) : bv B x t = 0 := by
  have : B.getD t [] = [] := by
    simp only [List.getD_eq_getElem?_getD]
    rw [List.getElem?_eq_none (by rw [hB.1]; exact ht)]
    rfl
  unfold bv
  rw [this]
  rfl
theorem bv_congr {m w : Nat} {B : Mat} (hB : Rect m w B) {x y : Vec} (h : ∀ c, c < w → x c = y c) : bv B x = bv B y := by
  funext t
  rcases Nat.lt_or_ge t m with ht | ht
  · unfold bv
    exact rdot_congr _ _ _ fun c hc => h c (by rw [hB.row ht] at hc; exact hc)
  · rw [bv_out hB x ht, bv_out hB y ht]
/-- l (B (a sum of columns of r)) -/
theorem lB_sum {m w : Nat} {B : Mat} {W : Wk} (h : WC m w B W) {i : Nat} (hi : i < m) (y : Vec) : ∀ n, n ≤ w → rdot (W.l.getD i []) (bv B (fun c => vdot n y (fun k => (ent W.r k c : Rat)))) = vdot n y (fun k => (ent W.g i k : Rat))
  | 0, _ => by
    show rdot _ (bv B (fun _ => 0)) = 0
    have : bv B (fun _ => 0) = fun _ => 0 := by
      funext k
      unfold bv
      exact rdot_zero _
    rw [this, rdot_zero]
  | n + 1, hn => by
    simp only [vdot]
    rw [← lB_sum h hi y n (by omega), h.eq i n hi (by omega)]
    have : bv B (fun c => vdot n y (fun k => (ent W.r k c : Rat)) + y n * (ent W.r n c : Rat)) = fun t => bv B (fun c => vdot n y (fun k => (ent W.r k c : Rat))) t - (- y n) * bv B (rv W.r n) t := by
      funext t
      unfold bv
      rw [← rdot_sub]
      refine rdot_congr _ _ _ fun c _ => ?_
      unfold rv
      grind
    rw [this, rdot_sub]
    grind
/-- a sum of which one item counts -/
theorem vdot_only (y a : Vec) (i : Nat) (h : ∀ k, k ≠ i → a k = 0) : ∀ n, vdot n y a = if i < n then y i * a i else 0
  | 0 => rfl
  | n + 1 => by
    simp only [vdot]
    rw [vdot_only y a i h n]
    rcases Nat.lt_trichotomy n i with h1 | h1 | h1
    · rw [if_neg (by omega), if_neg (by omega), h n (by omega)]; grind
    · subst h1
      rw [if_neg (by omega), if_pos (by omega)]; grind
    · rw [if_pos h1, if_pos (by omega), h n (by omega)]; grind

/-- a vector of the kernel is a sum of the last columns: 0 where all of these are 0 -/
theorem ker_span {m w kd xd : Nat} {B : Mat} {W : Wk} (E : SmEnd m w kd xd B W) (hmw : m ≤ w) (hB : Rect m w B) {x : Vec} (hx : Ker B x) {j : Nat} (hj : j < w) (hz : ∀ k, m ≤ k → k < w → ent W.r k j = 0) : x j = 0 := by
  obtain ⟨y, hy⟩ := E.wc.span x
  -- y vanishes ahead of m
  have gy : ∀ i, i < m → y i = 0 := fun i hi => by
    have e1 := lB_sum E.wc hi y w (Nat.le_refl _)
    have e2 : bv B (fun c => vdot w y (fun k => (ent W.r k c : Rat))) = fun _ => 0 := by
      rw [← bv_congr hB hy]
      funext t
      rcases Nat.lt_or_ge t m with ht | ht
      · exact hx t (by rw [hB.1]; exact ht)
      · exact bv_out hB x ht
    rw [e2, rdot_zero] at e1
    have e3 : vdot w y (fun k => (ent W.g i k : Rat)) = vdot w y (fun k => if k = i then (ent W.g i i : Rat) else 0) := vdot_congr w (fun _ _ => rfl) fun k hk => by
      by_cases e : k = i
      · rw [if_pos e, e]
      · rw [if_neg e, E.off i k hi hk (Ne.symm e)]
        rfl
    rw [e3, vdot_only y _ i (fun k hk => if_neg hk), if_pos (by omega), if_pos rfl] at e1
    have nz : (ent W.g i i : Rat) ≠ 0 := fun z => (E.dia i hi).1 (by
      have : ((ent W.g i i : Int) : Rat) = ((0 : Int) : Rat) := z
      exact Rat.intCast_inj.mp this)
    grind
  rw [hy j hj]
  have : vdot w y (fun k => (ent W.r k j : Rat)) = vdot w y (fun _ => 0) := by
    have key : ∀ n, n ≤ w → vdot n y (fun k => (ent W.r k j : Rat)) = vdot n y (fun _ => 0) := by
      intro n
      induction n with
      | zero => intro _; rfl
      | succ n ih =>
        intro hn
        simp only [vdot]
        rw [ih (by omega)]
        rcases Nat.lt_or_ge n m with h1 | h1
        · rw [gy n h1]; grind
        · rw [hz n h1 (by omega)]; grind
    exact key w (Nat.le_refl _)
  rw [this, vdot_zero]

/-- the last columns lie in the kernel -/
theorem ker_cols {m w kd xd : Nat} {B : Mat} {W : Wk} (E : SmEnd m w kd xd B W) (hB : Rect m w B) {k : Nat} (h1 : m ≤ k) (h2 : k < w) : Ker B (rv W.r k) := fun i hi => by
  rw [hB.1] at hi
  have z : Ker W.l (bv B (rv W.r k)) := fun t ht => by
    rw [E.wc.rl.1] at ht
    rw [← E.wc.eq t k ht h2, E.off t k ht h2 (by omega)]
    rfl
  exact E.wc.linj _ z i hi

/-- AN ANSWER: s rows of the Hermite form, brought to Smith form -/
theorem answer {m w s kd xd : Nat} {A top lef : Mat} {W : Wk} {b : Vec} (L : LA m w A top lef) (hA : Rect m w A) (hs : s ≤ m) (hsw : s ≤ w) (hz : ∀ i, s ≤ i → i < m → ∀ j, j < w → ent top i j = 0)
    (hb : ∀ k, s ≤ k → k < m → rdot (lef.getD k []) b = 0) (hB : Rect s w (top.take s)) (E : SmEnd s w kd xd (top.take s) W) (f : Vec)
    (hf : ∀ k, k < s → f k * (ent W.g k k : Rat) = rdot (W.l.getD k []) (fun i => rdot (lef.getD i []) b)) :
    ∀ i, i < m → rdot (A.getD i []) (fun c => vdot s f (fun k => (ent W.r k c : Rat))) = b i := by
  -- the first rows
  have hx : ∀ i, i < s → bv (top.take s) (fun c => vdot s f (fun k => (ent W.r k c : Rat))) i = rdot (lef.getD i []) b := fun i hi => by
    have z : Ker W.l (fun t => bv (top.take s) (fun c => vdot s f (fun k => (ent W.r k c : Rat))) t - 1 * rdot (lef.getD t []) b) := fun t ht => by
      rw [E.wc.rl.1] at ht
      rw [rdot_sub, lB_sum E.wc ht f s hsw]
      have e3 : vdot s f (fun k => (ent W.g t k : Rat)) = vdot s f (fun k => if k = t then (ent W.g t t : Rat) else 0) := vdot_congr s (fun _ _ => rfl) fun k hk => by
        by_cases e : k = t
        · rw [if_pos e, e]
        · rw [if_neg e, E.off t k ht (by omega) (Ne.symm e)]
          rfl
      rw [e3, vdot_only f _ t (fun k hk => if_neg hk), if_pos ht, if_pos rfl, hf t ht]
      grind
    have := E.wc.linj _ z i hi
    grind
  have tk : ∀ i, i < s → (top.take s).getD i [] = top.getD i [] := fun i hi => by
    simp only [List.getD_eq_getElem?_getD, List.getElem?_take, if_pos hi]
  have z : Ker lef (fun t => bv A (fun c => vdot s f (fun k => (ent W.r k c : Rat))) t - 1 * b t) := fun i hi => by
    rw [L.rl.1] at hi
    rw [rdot_sub, ← L.eq i hi]
    rcases Nat.lt_or_ge i s with h | h
    · have := hx i h
      unfold bv at this
      rw [tk i h] at this
      rw [this]
      grind
    · rw [hb i h hi]
      have : rdot (top.getD i []) (fun c => vdot s f (fun k => (ent W.r k c : Rat))) = 0 := by
        rw [rdot_vdot, L.rt.row hi, vdot_comm]
        refine (vdot_congr w (fun _ _ => rfl) fun j hj => ?_).trans (vdot_zero _ w)
        have := hz i h hi j hj
        unfold ent at this
        rw [this]
        rfl
      rw [this]
      grind
  intro i hi
  have := L.inj _ z i hi
  unfold bv at this
  grind
/-- NO ANSWER: a row of lef that leaves nothing on the left -/
theorem no_answer {m w : Nat} {A top lef : Mat} (L : LA m w A top lef) {k : Nat} (hk : k < m) (hz : ∀ j, j < w → ent top k j = 0) {x : Vec} : rdot (lef.getD k []) (bv A x) = 0 := by
  rw [← L.eq k hk, rdot_vdot, L.rt.row hk, vdot_comm]
  refine (vdot_congr w (fun _ _ => rfl) fun j hj => ?_).trans (vdot_zero _ w)
  have := hz j hj
  unfold ent at this
  rw [this]
  rfl
end K51

set_option maxHeartbeats 200000
/-! Fractions in lowest terms: what the program's pairs are. -/
namespace K51
theorem lowest_eq (t : Int) {b : Int} (hb : b ≠ 0) : (if b < 0 then -((Int.gcd t b : Nat) : Int) else ((Int.gcd t b : Nat) : Int)) ≠ 0 ∧
    t.fdiv (if b < 0 then -((Int.gcd t b : Nat) : Int) else ((Int.gcd t b : Nat) : Int)) = (Rat.divInt t b).num ∧
    b.fdiv (if b < 0 then -((Int.gcd t b : Nat) : Int) else ((Int.gcd t b : Nat) : Int)) = ((Rat.divInt t b).den : Int) := by
  have g0 : 0 < Int.gcd t b := Int.gcd_pos_of_ne_zero_right t hb
  have gt : ((Int.gcd t b : Nat) : Int) ∣ t := Int.gcd_dvd_left ..
  have gb : ((Int.gcd t b : Nat) : Int) ∣ b := Int.gcd_dvd_right ..
  have e1 := Rat.num_divInt t b
  have e2 := Rat.den_divInt t b
  rw [if_neg hb] at e2
  rw [Int.gcd_comm b t] at e1 e2
  generalize hg : Int.gcd t b = g at *
  obtain ⟨u, hu⟩ := gt
  obtain ⟨v, hv⟩ := gb
  have g' : (g : Int) ≠ 0 := by omega
  have fd : ∀ (x c : Int), x ≠ 0 → (x * c).fdiv x = c := fun x c hx => Int.mul_fdiv_cancel_left c hx
  by_cases h : b < 0
  · rw [if_pos h]
    have hx : -(g : Int) ≠ 0 := by omega
    refine ⟨hx, ?_, ?_⟩
    · rw [e1, Int.sign_eq_neg_one_of_neg h, hu]
      have a1 : (g : Int) * u = -(g : Int) * (-u) := by rw [Int.neg_mul_neg]
      rw [a1, fd _ _ hx]
      have a2 : -1 * (-(g : Int) * -u) = (g : Int) * (-u) := by grind
      rw [a2, Int.mul_ediv_cancel_left _ g']
    · rw [e2]
      have hvn : v < 0 := by
        rcases (show v < 0 ∨ 0 ≤ v by omega) with q | q
        · exact q
        · have : 0 ≤ (g : Int) * v := Int.mul_nonneg (by omega) q
          omega
      have a1 : b = -(g : Int) * (-v) := by rw [Int.neg_mul_neg]; exact hv
      have a3 : b.natAbs = g * (-v).natAbs := by rw [hv, Int.natAbs_mul, Int.natAbs_neg]; rfl
      rw [a3, Nat.mul_div_cancel_left _ g0, a1, fd _ _ hx]
      omega
  · rw [if_neg h]
    refine ⟨g', ?_, ?_⟩
    · rw [e1, Int.sign_eq_one_of_pos (by omega), Int.one_mul, hu, fd _ _ g', Int.mul_ediv_cancel_left _ g']
    · rw [e2]
      have hvp : 0 < v := by
        rcases (show v ≤ 0 ∨ 0 < v by omega) with q | q
        · have : (g : Int) * v ≤ 0 := Int.mul_nonpos_of_nonneg_of_nonpos (by omega) q
          omega
        · exact q
      have a3 : b.natAbs = g * v.natAbs := by rw [hv, Int.natAbs_mul]; rfl
      rw [a3, Nat.mul_div_cancel_left _ g0, hv, fd _ _ g']
      omega
theorem divInt_self (r : Rat) : Rat.divInt r.num (r.den : Int) = r := Rat.num_divInt_den r
theorem rat_eq (r : Rat) : r = (r.num : Rat) / ((r.den : Int) : Rat) := by
  rw [← Rat.divInt_eq_div]; exact (divInt_self r).symm
theorem den_ne (r : Rat) : (r.den : Int) ≠ 0 := by have := r.den_pos; omega
theorem ratc_ne {i : Int} (h : i ≠ 0) : (i : Rat) ≠ 0 := fun z => h (by
  have : ((i : Int) : Rat) = ((0 : Int) : Rat) := z
  exact Rat.intCast_inj.mp this)
theorem times_eq (r s : Rat) : Rat.divInt (r.num * s.num) ((r.den : Int) * (s.den : Int)) = r * s := by
  rw [Rat.divInt_eq_div]
  have h1 := ratc_ne (den_ne r)
  have h2 := ratc_ne (den_ne s)
  have e1 := rat_eq r
  have e2 := rat_eq s
  generalize (r.num : Int) = a at *
  generalize ((r.den : Int)) = b at *
  generalize (s.num : Int) = c at *
  generalize ((s.den : Int)) = d at *
  rw [e1, e2]
  grind
theorem plus_eq (r s : Rat) : Rat.divInt (r.num * (s.den : Int) + s.num * (r.den : Int)) ((r.den : Int) * (s.den : Int)) = r + s := by
  rw [Rat.divInt_eq_div]
  have h1 := ratc_ne (den_ne r)
  have h2 := ratc_ne (den_ne s)
  have e1 := rat_eq r
  have e2 := rat_eq s
  generalize (r.num : Int) = a at *
  generalize ((r.den : Int)) = b at *
  generalize (s.num : Int) = c at *
  generalize ((s.den : Int)) = d at *
  rw [e1, e2]
  grind
theorem plus_eq' (r s : Rat) (h : (r.den : Int) = (s.den : Int)) : Rat.divInt (r.num + s.num) (r.den : Int) = r + s := by
  rw [Rat.divInt_eq_div]
  have h1 := ratc_ne (den_ne r)
  have e1 := rat_eq r
  have e2 := rat_eq s
  rw [← h] at e2
  generalize (r.num : Int) = a at *
  generalize ((r.den : Int)) = b at *
  generalize (s.num : Int) = c at *
  rw [e1, e2]
  grind
theorem over_eq (r s : Rat) (h : s ≠ 0) : r.den * s.num ≠ 0 ∧ Rat.divInt (r.num * (s.den : Int)) ((r.den : Int) * s.num) = r / s := by
  have h0 : s.num ≠ 0 := fun z => h (Rat.num_eq_zero.mp z)
  refine ⟨Int.mul_ne_zero (den_ne r) h0, ?_⟩
  rw [Rat.divInt_eq_div]
  have h1 := ratc_ne (den_ne r)
  have h2 := ratc_ne (den_ne s)
  have h3 := ratc_ne h0
  have e1 := rat_eq r
  have e2 := rat_eq s
  generalize (r.num : Int) = a at *
  generalize ((r.den : Int)) = b at *
  generalize (s.num : Int) = c at *
  generalize ((s.den : Int)) = d at *
  rw [e1, e2]
  grind
end K51

set_option maxHeartbeats 200000
/-! Least common bottoms, rows of fractions made integers, sums of products. -/
namespace K51
/-- the running least common multiple of the bottoms -/
def cbot (rs : List Rat) : Nat := rs.foldl (fun b r => b * r.den / Nat.gcd b r.den) 1
theorem foldl_take {α β : Type} (f : β → α → β) (b : β) : ∀ (l : List α) (i : Nat) (x : α), l[i]? = some x → (l.take (i + 1)).foldl f b = f ((l.take i).foldl f b) x
  | [], _, _, h => by simp at h
  | a :: l, 0, x, h => by simp at h; subst h; rfl
  | a :: l, i + 1, x, h => by
    simp only [List.take_succ_cons, List.foldl_cons]
    exact foldl_take f (f b a) l i x (by simpa using h)
theorem cbot_pos_aux : ∀ (rs : List Rat) (b : Nat), 0 < b → 0 < rs.foldl (fun b r => b * r.den / Nat.gcd b r.den) b
  | [], _, h => h
  | r :: rs, b, h => by
    simp only [List.foldl_cons]
    refine cbot_pos_aux rs _ ?_
    have hg : 0 < Nat.gcd b r.den := Nat.gcd_pos_of_pos_left _ h
    exact Nat.div_pos (Nat.le_trans (Nat.gcd_le_left _ h) (Nat.le_mul_of_pos_right _ r.den_pos)) hg
theorem cbot_pos (rs : List Rat) : 0 < cbot rs := cbot_pos_aux rs 1 (by decide)
theorem lcm_dvd_l (b d : Nat) (hb : 0 < b) : b ∣ b * d / Nat.gcd b d := by
  have := Nat.gcd_dvd_right b d
  obtain ⟨c, hc⟩ := this
  have hg : 0 < Nat.gcd b d := Nat.gcd_pos_of_pos_left _ hb
  refine ⟨c, ?_⟩
  rw [show b * d = Nat.gcd b d * (b * c) by
    conv => lhs; rw [hc]
    simp only [Nat.mul_assoc, Nat.mul_comm, Nat.mul_left_comm]]
  rw [Nat.mul_div_cancel_left _ hg]
theorem lcm_dvd_r (b d : Nat) (hb : 0 < b) : d ∣ b * d / Nat.gcd b d := by
  have := Nat.gcd_dvd_left b d
  obtain ⟨c, hc⟩ := this
  have hg : 0 < Nat.gcd b d := Nat.gcd_pos_of_pos_left _ hb
  refine ⟨c, ?_⟩
  rw [show b * d = Nat.gcd b d * (d * c) by
    conv => lhs; rw [hc]
    simp only [Nat.mul_assoc, Nat.mul_comm, Nat.mul_left_comm]]
  rw [Nat.mul_div_cancel_left _ hg]
theorem cbot_dvd_aux : ∀ (rs : List Rat) (b : Nat), 0 < b → b ∣ rs.foldl (fun b r => b * r.den / Nat.gcd b r.den) b ∧ ∀ r ∈ rs, r.den ∣ rs.foldl (fun b r => b * r.den / Nat.gcd b r.den) b
  | [], b, _ => ⟨Nat.dvd_refl _, fun r hr => by simp at hr⟩
  | r :: rs, b, h => by
    simp only [List.foldl_cons]
    have hg : 0 < Nat.gcd b r.den := Nat.gcd_pos_of_pos_left _ h
    have hp : 0 < b * r.den / Nat.gcd b r.den := Nat.div_pos (Nat.le_trans (Nat.gcd_le_left _ h) (Nat.le_mul_of_pos_right _ r.den_pos)) hg
    obtain ⟨h1, h2⟩ := cbot_dvd_aux rs _ hp
    refine ⟨Nat.dvd_trans (lcm_dvd_l b r.den h) h1, fun x hx => ?_⟩
    rcases List.mem_cons.mp hx with rfl | hx
    · exact Nat.dvd_trans (lcm_dvd_r b x.den h) h1
    · exact h2 x hx
theorem cbot_dvd {rs : List Rat} {r : Rat} (h : r ∈ rs) : r.den ∣ cbot rs := (cbot_dvd_aux rs 1 (by decide)).2 r h
theorem cbot_le_aux : ∀ (rs : List Rat) (b : Nat), rs.foldl (fun b r => b * r.den / Nat.gcd b r.den) b ≤ rs.foldl (fun b r => b * r.den) b
  | [], _ => Nat.le_refl _
  | r :: rs, b => by
    simp only [List.foldl_cons]
    refine Nat.le_trans (cbot_le_aux rs _) ?_
    have : ∀ (rs : List Rat) (x y : Nat), x ≤ y → rs.foldl (fun b r => b * r.den) x ≤ rs.foldl (fun b r => b * r.den) y := by
      intro rs
      induction rs with
      | nil => intro _ _ h; exact h
      | cons r rs ih => intro x y h; exact ih _ _ (Nat.mul_le_mul_right _ h)
    exact this rs _ _ (Nat.div_le_self _ _)
/-- the integers over the common bottom -/
def nums (rs : List Rat) : List Int := rs.map fun r => r.num * ((cbot rs / r.den : Nat) : Int)
def gcds (ns : List Int) : Nat := ns.foldl (fun g n => Int.gcd (g : Int) n) 0
/-- integers of the program -/
def intsOf (rs : List Rat) : List Int := if 1 < gcds (nums rs) then (nums rs).map fun n => n.fdiv ((gcds (nums rs) : Nat) : Int) else nums rs
theorem gcds_dvd_aux : ∀ (ns : List Int) (g : Nat), ((ns.foldl (fun g n => Int.gcd (g : Int) n) g : Nat) : Int) ∣ (g : Int) ∧ ∀ n ∈ ns, ((ns.foldl (fun g n => Int.gcd (g : Int) n) g : Nat) : Int) ∣ n
  | [], g => ⟨Int.dvd_refl _, fun n h => by simp at h⟩
  | n :: ns, g => by
    simp only [List.foldl_cons]
    obtain ⟨h1, h2⟩ := gcds_dvd_aux ns (Int.gcd (g : Int) n)
    refine ⟨Int.dvd_trans h1 (Int.gcd_dvd_left ..), fun x hx => ?_⟩
    rcases List.mem_cons.mp hx with rfl | hx
    · exact Int.dvd_trans h1 (Int.gcd_dvd_right ..)
    · exact h2 x hx
theorem gcds_dvd {ns : List Int} {n : Int} (h : n ∈ ns) : ((gcds ns : Nat) : Int) ∣ n := (gcds_dvd_aux ns 0).2 n h
/-- one positive fraction times all -/
theorem intsOf_scale (rs : List Rat) : (intsOf rs).length = rs.length ∧ ∃ c : Rat, c ≠ 0 ∧ ∀ (i : Nat) (r : Rat), rs[i]? = some r → ∃ x : Int, (intsOf rs)[i]? = some x ∧ (x : Rat) = c * r := by
  have hn : ∀ r ∈ rs, (((r.num * ((cbot rs / r.den : Nat) : Int) : Int)) : Rat) = (((cbot rs : Nat) : Int) : Rat) * r := fun r hr => by
    obtain ⟨c, hc⟩ := cbot_dvd hr
    have hd : 0 < r.den := r.den_pos
    rw [hc, Nat.mul_div_cancel_left _ hd]
    have e := rat_eq r
    have h1 := ratc_ne (den_ne r)
    have e2 : (((r.den * c : Nat) : Int) : Rat) = ((r.den : Int) : Rat) * ((c : Int) : Rat) := by
      rw [← Rat.intCast_mul]; rfl
    rw [e2]
    generalize ((r.den : Nat) : Int) = b at *
    generalize r.num = a at *
    rw [Rat.intCast_mul]
    grind
  have cp : (0 : Rat) < (((cbot rs : Nat) : Int) : Rat) := by
    have := cbot_pos rs
    have h : (0 : Int) < ((cbot rs : Nat) : Int) := by omega
    exact_mod_cast h
  unfold intsOf
  by_cases h : 1 < gcds (nums rs)
  · rw [if_pos h]
    have gp : (0 : Rat) < (((gcds (nums rs) : Nat) : Int) : Rat) := by
      have h : (0 : Int) < ((gcds (nums rs) : Nat) : Int) := by omega
      exact_mod_cast h
    refine ⟨by unfold nums; rw [List.length_map, List.length_map], (((cbot rs : Nat) : Int) : Rat) / (((gcds (nums rs) : Nat) : Int) : Rat), (by have a1 : (((cbot rs : Nat) : Int) : Rat) ≠ 0 := (by grind); have a2 : (((gcds (nums rs) : Nat) : Int) : Rat) ≠ 0 := (by grind); grind), fun i r hr => ?_⟩
    have hm : r ∈ rs := List.mem_of_getElem? hr
    have hin : r.num * ((cbot rs / r.den : Nat) : Int) ∈ nums rs := List.mem_map.mpr ⟨r, hm, rfl⟩
    obtain ⟨c, hc⟩ := gcds_dvd hin
    refine ⟨(r.num * ((cbot rs / r.den : Nat) : Int)).fdiv ((gcds (nums rs) : Nat) : Int), ?_, ?_⟩
    · rw [List.getElem?_map]
      unfold nums
      rw [List.getElem?_map, hr]
      rfl
    · have e := hn r hm
      rw [hc, Rat.intCast_mul] at e
      rw [hc, Int.mul_fdiv_cancel_left _ (by omega)]
      generalize (((gcds (nums rs) : Nat) : Int) : Rat) = g at *
      have : g ≠ 0 := by grind
      grind
  · rw [if_neg h]
    refine ⟨by unfold nums; rw [List.length_map], (((cbot rs : Nat) : Int) : Rat), (by grind), fun i r hr => ?_⟩
    refine ⟨r.num * ((cbot rs / r.den : Nat) : Int), ?_, hn r (List.mem_of_getElem? hr)⟩
    unfold nums
    rw [List.getElem?_map, hr]
    rfl
/-- running sums of products -/
def dsum (rs ss : List Rat) : Nat → Rat
  | 0 => 0
  | n + 1 => dsum rs ss n + rs.getD n 0 * ss.getD n 0
end K51

set_option maxHeartbeats 200000
/-! The law's rank: Bareiss' elimination as a function. -/
namespace K51
structure BSt where
  g : Mat
  last : Int
  place : Nat
/-- one row less its share of the leading one -/
def rowB (last : Int) (k : Nat) (lead r : List Int) : List Int := List.zipWith (fun a b => (a * lead.getD k 0 - b * r.getD k 0).fdiv last) r lead
/-- the rows behind z, n of them done -/
def elimB (last : Int) (k z : Nat) (M : Mat) : Nat → Mat
  | 0 => M
  | n + 1 => (elimB last k z M n).set (z + 1 + n) (rowB last k ((elimB last k z M n).getD z []) ((elimB last k z M n).getD (z + 1 + n) []))
/-- the rows from z on with an item other than 0 in a column -/
def foundB (M : Mat) (k z : Nat) : List Nat := ((List.range (M.length - z)).map fun i => z + i).filter fun j => decide (ent M j k ≠ 0)
def stepB (k : Nat) (S : BSt) : BSt :=
  if S.place = S.g.length then S else
  match foundB S.g k S.place with
  | [] => S
  | j :: _ => ⟨elimB S.last k S.place (swp2 S.g S.place j) (S.g.length - S.place - 1), ent (swp2 S.g S.place j) S.place k, S.place + 1⟩
def runB (M : Mat) : Nat → BSt
  | 0 => ⟨M, 1, 0⟩
  | k + 1 => stepB k (runB M k)
/-- the numbers stay small enough, so that the elimination runs -/
def RkOk (M : Mat) (w : Nat) : Prop := ∀ k, k < w → (runB M k).last ≠ 0 ∧ ∀ i j, (ent (runB M k).g i j).natAbs < 2 ^ 1000
theorem rowB_len {last : Int} {k w : Nat} {l r : List Int} (h1 : l.length = w) (h2 : r.length = w) : (rowB last k l r).length = w := by
  unfold rowB
  rw [List.length_zipWith, h1, h2, Nat.min_self]
theorem elimB_rect {last : Int} {k z m w : Nat} {M : Mat} (h : Rect m w M) (hz : z < m) : ∀ n, z + n < m → Rect m w (elimB last k z M n)
  | 0, _ => h
  | n + 1, hn => by
    have ih := elimB_rect (last := last) (k := k) h hz n (by omega)
    exact ih.set (rowB_len (ih.row hz) (ih.row (by omega)))
theorem elimB_row {last : Int} {k z : Nat} {M : Mat} : ∀ n i, z + 1 + n ≤ M.length → (elimB last k z M n).length = M.length ∧ (elimB last k z M n).getD i [] = if z < i ∧ i < z + 1 + n then rowB last k (M.getD z []) (M.getD i []) else M.getD i []
  | 0, i, _ => ⟨rfl, by rw [if_neg (by omega)]; rfl⟩
  | n + 1, i, hn => by
    obtain ⟨l, e⟩ := elimB_row (last := last) (k := k) (z := z) (M := M) n i (by omega)
    obtain ⟨_, ez⟩ := elimB_row (last := last) (k := k) (z := z) (M := M) n z (by omega)
    obtain ⟨_, en⟩ := elimB_row (last := last) (k := k) (z := z) (M := M) n (z + 1 + n) (by omega)
    rw [if_neg (by omega)] at ez
    rw [if_neg (by omega)] at en
    refine ⟨by rw [elimB, List.length_set, l], ?_⟩
    rw [elimB, ez, en, getD_set _ (z + 1 + n) _ i (by rw [l]; omega)]
    by_cases q : i = z + 1 + n
    · rw [if_pos q, if_pos (by omega), q]
    · rw [if_neg q, e]
      by_cases q2 : z < i ∧ i < z + 1 + n
      · rw [if_pos q2, if_pos (by omega)]
      · rw [if_neg q2, if_neg (by omega)]
theorem stepB_len {k : Nat} {S : BSt} : (stepB k S).g.length = S.g.length := by
  unfold stepB
  split
  · rfl
  · split
    · rfl
    · rename_i h j _ e
      have hj : j ∈ foundB S.g k S.place := by rw [e]; exact List.mem_cons_self ..
      show (elimB _ _ _ _ _).length = _
      have : S.place + 1 + (S.g.length - S.place - 1) ≤ (swp2 S.g S.place j).length ∨ ¬ S.place < S.g.length := by
        by_cases q : S.place < S.g.length
        · left; unfold swp2; rw [List.length_set, List.length_set]; omega
        · exact .inr q
      rcases this with q | q
      · rw [(elimB_row _ 0 q).1]
        unfold swp2
        rw [List.length_set, List.length_set]
      · have : S.g.length - S.place - 1 = 0 := by omega
        rw [this]
        show (swp2 _ _ _).length = _
        unfold swp2
        rw [List.length_set, List.length_set]
end K51

set_option maxHeartbeats 200000
/-! What the walks ask for, with no program in sight. -/
namespace K51W
open K51
def Mul (i j : Int) : Prop := i.natAbs < 2 ^ 64 ∨ j.natAbs < 2 ^ 64 ∨ ∃ a b : Nat, i.natAbs < 2 ^ a ∧ j.natAbs < 2 ^ b ∧ a + b ≤ 134000000
def turnM (w : Nat) (M : Mat) : Mat := (List.range w).map fun k => M.map fun r => r.getD k 0
structure DotFit (rs ss : List Rat) : Prop where
  t1 : ∀ i, i < rs.length → Mul (rs.getD i 0).num (ss.getD i 0).num ∧ Mul ((rs.getD i 0).den : Int) ((ss.getD i 0).den : Int)
  p1 : ∀ i, i < rs.length → Mul (dsum rs ss i).num ((rs.getD i 0 * ss.getD i 0).den : Int) ∧ Mul (rs.getD i 0 * ss.getD i 0).num ((dsum rs ss i).den : Int) ∧ Mul ((dsum rs ss i).den : Int) ((rs.getD i 0 * ss.getD i 0).den : Int)
/-- a row that is not all 0 -/
def nz (r : List Int) : Bool := r.any fun x => x != 0
/-- what kernel_of runs through, as a predicate -/
def KOk (e m w : Nat) (A : Mat) (Res : Mat → Prop) : Prop := ∃ P1 : Nat → Mat → Prop, FOk e w 0 0 A P1 ∧ ∀ s M, P1 s M → Rect m w M →
  (M.filter nz = [] → Res (idm w)) ∧ (M.filter nz ≠ [] → (M.filter nz).length ≤ w ∧ ∃ P2 : Wk → Prop, MOk e (M.filter nz).length w (M.filter nz).length 0 ⟨M.filter nz, idm (M.filter nz).length, idm w⟩ P2 ∧
    ∀ W, P2 W → WR (M.filter nz).length w W → ((M.filter nz).length < w → ∃ P3 : Nat → Mat → Prop, FOk e w 0 0 (W.r.drop (M.filter nz).length) P3 ∧ ∀ s3 M3, P3 s3 M3 → Rect (w - (M.filter nz).length) w M3 → Res (M3.filter nz)) ∧
      (w ≤ (M.filter nz).length → Res []))
theorem turn_rect {m w : Nat} {M : Mat} (h : M.length = m) : Rect w m (turnM w M) := ⟨by simp [turnM], fun r hr => by
  unfold turnM at hr
  obtain ⟨k, _, rfl⟩ := List.mem_map.mp hr
  rw [List.length_map, h]⟩
theorem turn_ent {w : Nat} {M : Mat} {i j : Nat} (hi : i < w) : ent (turnM w M) i j = ent M j i := by
  unfold ent turnM
  simp only [List.getD_eq_getElem?_getD, List.getElem?_map, List.getElem?_range hi, Option.map_some, Option.getD_some]
  cases M[j]? with
  | none => simp
  | some r => simp
theorem ext_rect {m w : Nat} {M N : Mat} (h1 : Rect m w M) (h2 : Rect m w N) (h : ∀ i j, i < m → j < w → ent M i j = ent N i j) : M = N := by
  refine List.ext_getElem (by rw [h1.1, h2.1]) fun i hi hi2 => ?_
  have l1 : M[i].length = w := h1.2 _ (List.getElem_mem hi)
  have l2 : N[i].length = w := h2.2 _ (List.getElem_mem hi2)
  refine List.ext_getElem (by rw [l1, l2]) fun j hj hj2 => ?_
  have := h i j (by rw [← h1.1]; exact hi) (by rw [← l1]; exact hj)
  unfold ent at this
  simpa [List.getD_eq_getElem?_getD, hi, hi2, hj, hj2] using this
theorem turn_turn {m w : Nat} {M : Mat} (h : Rect m w M) : turnM m (turnM w M) = M :=
  ext_rect (turn_rect (by simp [turnM])) h fun i j hi hj => by rw [turn_ent hi, turn_ent hj]
/-- what Equations.__init__ runs through -/
def EOk (e m w : Nat) (A : Mat) (Res : Mat → Mat → Nat → Mat → Mat → Mat → Prop) : Prop := ∃ P1 : Nat → Mat → Prop, FOk e w 0 0 (augm m A) P1 ∧ ∀ s0 M, P1 s0 M → Rect m (w + m) M →
  (((topOf w M).filter nz).length = 0 → Res (topOf w M) (lefOf w M) 0 [] [] (idm w)) ∧ (0 < ((topOf w M).filter nz).length → ((topOf w M).filter nz).length ≤ w ∧
    ∃ P2 : Wk → Prop, MOk e ((topOf w M).filter nz).length w ((topOf w M).filter nz).length 0 ⟨(topOf w M).take ((topOf w M).filter nz).length, idm ((topOf w M).filter nz).length, idm w⟩ P2 ∧
      ∀ W, P2 W → WR ((topOf w M).filter nz).length w W → Res (topOf w M) (lefOf w M) ((topOf w M).filter nz).length W.l W.g (turnM w W.r))
/-- a row of integers as fractions -/
abbrev rr (r : List Int) : List Rat := r.map fun x : Int => (x : Rat)
def sidesOf (lef : Mat) (m : Nat) (b : List Rat) : List Rat := (List.range m).map fun i => dsum (rr (lef.getD i [])) b m
def valsOf (L G : Mat) (s : Nat) (sd : List Rat) : List Rat := (List.range s).map fun k => dsum (rr (L.getD k [])) (sd.take s) s / ((ent G k k : Int) : Rat)
def spotOf (R : Mat) (s w : Nat) (vs : List Rat) : List Rat := (List.range w).map fun j => dsum (rr ((R.getD j []).take s)) vs s
/-- what must hold of the sizes of numbers, so that answer_to runs -/
structure AOk (lef : Mat) (s m w : Nat) (L G R : Mat) (b : List Rat) : Prop where
  rl : Rect m m lef
  rL : Rect s s L
  rG : Rect s w G
  rR : Rect w w R
  sm : s ≤ m
  sw : s ≤ w
  m100 : m ≤ 100
  w100 : w ≤ 100
  lb : b.length = m
  f1 : ∀ i, i < m → DotFit (rr (lef.getD i [])) b
  f2 : (∀ k, s ≤ k → k < m → (sidesOf lef m b).getD k 0 = 0) → ∀ k, k < s → DotFit (rr (L.getD k [])) ((sidesOf lef m b).take s) ∧ ent G k k ≠ 0 ∧ Mul ((dsum (rr (L.getD k [])) ((sidesOf lef m b).take s) s).den : Int) (ent G k k)
  f3 : (∀ k, s ≤ k → k < m → (sidesOf lef m b).getD k 0 = 0) → ∀ j, j < w → DotFit (rr ((R.getD j []).take s)) (valsOf L G s (sidesOf lef m b))
/-- what ratio_solution runs through over rows A and a right side b: Y the answers, N the weights -/
def ROk (e m w : Nat) (A : Mat) (b : List Int) (Y : List Rat → Prop) (N : List Int → Prop) : Prop := ∃ Res, EOk e m w A Res ∧ ∀ top lef s L G R, Res top lef s L G R → AOk lef s m w L G R (rr b) ∧
  ((∀ k, s ≤ k → k < m → (sidesOf lef m (rr b)).getD k 0 = 0) → Y (spotOf R s w (valsOf L G s (sidesOf lef m (rr b))))) ∧
  ∀ k, s ≤ k → k < m → (sidesOf lef m (rr b)).getD k 0 ≠ 0 → N (lef.getD k [])
structure IntsFit (rs : List Rat) : Prop where
  len : rs.length ≤ 1000
  run : ∀ (i : Nat) (r : Rat), rs[i]? = some r → Mul ((cbot (rs.take i) : Nat) : Int) (r.den : Int)
  all : ∀ r ∈ rs, Mul r.num ((cbot rs / r.den : Nat) : Int)
def unitv (m j : Nat) : List Int := (List.range m).map fun k => if k = j then 1 else 0
/-- what is told of a letter -/
inductive Ltr where
  | free (g : List Int)
  | held (p : Rat) (c : List Int)
/-- a letter's part, as hangs makes it -/
def GoodL (sp : List Rat) (N : Mat) (Yc : Nat → List Rat → Prop) (j : Nat) : Ltr → Prop
  | .free g => g ∈ N ∧ g.getD j 0 ≠ 0
  | .held p c => p = sp.getD j 0 ∧ (∀ r ∈ N, r.getD j 0 = 0) ∧ ∃ s, Yc j s ∧ c = intsOf s
/-- what hangs runs through -/
def HOk (e m w : Nat) (A : Mat) (b : List Int) (Z : List Int → Prop) (L : List Ltr → Prop) : Prop := ∃ Y N, ROk e w m (turnM w A) b Y N ∧ (∀ wt, N wt → IntsFit (rr wt) ∧ Z (intsOf (rr wt))) ∧ ∀ sp, Y sp → sp.length = m ∧
  ∃ Rk, KOk e w m (turnM w A) Rk ∧ ∀ B, Rk B → (∀ r ∈ B, r.length = m) ∧ B.length ≤ 1000 ∧ ∃ Yc : Nat → List Rat → Prop, (∀ j, j < m → (∀ r ∈ B, r.getD j 0 = 0) → ROk e m w A (unitv m j) (Yc j) (fun _ => False) ∧ ∀ s, Yc j s → IntsFit s) ∧
    ∀ ls : List Ltr, ls.length = m → (∀ (j : Nat) (l : Ltr), ls[j]? = some l → GoodL sp B Yc j l) → L ls
/-- the sum of the products -/
def inner (r c : List Int) : Int := (List.zipWith (fun a b => a * b) r c).sum
/-- Euclid's laps from x and y end in n -/
def EndsIn : Nat → Nat → Nat → Prop
  | 0, _, y => y = 0
  | n + 1, x, y => y = 0 ∨ EndsIn n y (x % y)
theorem EndsIn.zero : ∀ {n x : Nat}, EndsIn n x 0
  | 0, _ => rfl
  | _ + 1, _ => .inl rfl
/-- the units of powers -/
def unitsOf (A : Mat) (w : Nat) (p : List Int) : List Int := (turnM w A).map fun c => inner p c
/-- what the law asks of what is told of a letter -/
def LetOk (A : Mat) (b : List Int) (m w j : Nat) : Ltr → Prop
  | .free g => g.length = m ∧ (∀ x ∈ unitsOf A w g, x = 0) ∧ g.getD j 0 ≠ 0
  | .held p c => c.length = w ∧ EndsIn 60000 p.num.natAbs p.den ∧ (∀ k, k < m → (inner c (A.getD k []) ≠ 0 ↔ k = j)) ∧ EndsIn 60000 (inner c b).natAbs (inner c (A.getD j [])).natAbs ∧ p = Rat.divInt (inner c b) (inner c (A.getD j []))
/-- the law, with no program in sight -/
def PlainLaw : Prop := ∀ (m w : Nat) (A : Mat) (b : List Int), 0 < m → m ≤ 6 → 0 < w → w ≤ 4 → Rect m w A → (∀ r ∈ A, ∀ x ∈ r, x.natAbs ≤ 4860) → b.length = w → (∀ x ∈ b, x.natAbs ≤ 100000) →
  RkOk A w ∧ RkOk (A ++ [b]) w ∧ ∃ (e : Nat) (Z : List Int → Prop) (L : List Ltr → Prop), e ≤ 66900000 ∧ HOk e m w A b Z L ∧
    (∀ c, Z c → (runB A w).place ≠ (runB (A ++ [b]) w).place ∧ c.length = w ∧ (∀ k, k < m → inner c (A.getD k []) = 0) ∧ inner c b ≠ 0) ∧
    ∀ ls, L ls → (runB A w).place = (runB (A ++ [b]) w).place ∧ ∀ (j : Nat) (l : Ltr), ls[j]? = some l → LetOk A b m w j l
end K51W

set_option maxHeartbeats 200000
/-! The rank: spans, Steinitz' lemma, Bareiss' elimination is exact and ends in the rank. -/
namespace K51
/-! ### sums -/
theorem vdot_add (y a b : Vec) : ∀ n, vdot n y (fun i => a i + b i) = vdot n y a + vdot n y b
  | 0 => by simp only [vdot]; grind
  | n + 1 => by simp only [vdot]; rw [vdot_add y a b n]; grind
theorem vdot_mul (y a : Vec) (q : Rat) : ∀ n, vdot n y (fun i => q * a i) = q * vdot n y a
  | 0 => by simp only [vdot]; grind
  | n + 1 => by simp only [vdot]; rw [vdot_mul y a q n]; grind
theorem vdot_z2 (n : Nat) {y a : Vec} (h : ∀ i, i < n → a i = 0) : vdot n y a = 0 := (vdot_congr n (fun _ _ => rfl) h).trans (vdot_zero y n)
/-- two sums in the other order -/
theorem vdot_two (c : Nat → Vec) (S : Vec) (y : Vec) (s : Nat) : ∀ n, vdot n y (fun i => vdot s (c i) S) = vdot s (fun t => vdot n y (fun i => c i t)) S
  | 0 => by
    simp only [vdot]
    rw [vdot_comm, vdot_zero]
  | n + 1 => by
    show vdot n y (fun i => vdot s (c i) S) + y n * vdot s (c n) S = vdot s (fun t => vdot n y (fun i => c i t) + y n * c n t) S
    rw [vdot_two c S y s n, vdot_comm s (fun t => vdot n y (fun i => c i t) + y n * c n t) S, vdot_add, vdot_mul, vdot_comm s S, vdot_comm s S (c n)]
theorem vdot_last (n : Nat) (y a : Vec) : vdot (n + 1) y a = vdot n y a + y n * a n := rfl

/-- fewer equations than unknowns -/
theorem homog : ∀ (s n : Nat) (a : Nat → Nat → Rat), s < n → ∃ y : Vec, (∃ i, i < n ∧ y i ≠ 0) ∧ ∀ t, t < s → vdot n y (fun i => a i t) = 0
  | 0, n, a, h => ⟨fun _ => 1, ⟨0, h, by decide⟩, fun t ht => absurd ht (Nat.not_lt_zero t)⟩
  | s + 1, n, a, h => by
    by_cases q : ∃ p, p < n ∧ a p s ≠ 0
    · obtain ⟨p, hp, hn⟩ := q
      obtain ⟨n', rfl⟩ : ∃ n', n = n' + 1 := ⟨n - 1, by omega⟩
      -- p brought to the end
      have sw : ∀ i, i < n' + 1 → swp p n' i < n' + 1 := fun i hi => swp_lt hp (by omega) hi
      have e0 : swp p n' n' = p := by unfold swp; repeat' split <;> try omega
      have hpa : a (swp p n' n') s ≠ 0 := by rw [e0]; exact hn
      generalize hb : (fun i t => a (swp p n' i) t) = b
      have hbn : b n' s ≠ 0 := by rw [← hb]; exact hpa
      obtain ⟨y, ⟨i, hi, hy⟩, hz⟩ := homog s n' (fun i t => b i t - b i s / b n' s * b n' t) (by omega)
      have key : ∀ t, t < s + 1 → vdot (n' + 1) (fun i => if i = n' then - vdot n' y (fun i => b i s) / b n' s else y i) (fun i => b i t) = 0 := fun t ht => by
        rw [vdot_last, if_pos rfl]
        have e1 : vdot n' (fun i => if i = n' then - vdot n' y (fun i => b i s) / b n' s else y i) (fun i => b i t) = vdot n' y (fun i => b i t) := vdot_congr n' (fun i hi => by rw [if_neg (by omega)]) fun _ _ => rfl
        rw [e1]
        rcases Nat.lt_or_ge t s with h1 | h1
        · have := hz t h1
          have e2 : vdot n' y (fun i => b i t - b i s / b n' s * b n' t) = vdot n' y (fun i => b i t) - (b n' t / b n' s) * vdot n' y (fun i => b i s) := by
            rw [← vdot_sub]
            refine vdot_congr n' (fun _ _ => rfl) fun i _ => ?_
            grind
          rw [e2] at this
          grind
        · have : t = s := by omega
          subst this
          grind
      refine ⟨fun i => (fun i => if i = n' then - vdot n' y (fun i => b i s) / b n' s else y i) (swp p n' i), ⟨swp p n' i, sw i (by omega), ?_⟩, fun t ht => ?_⟩
      · show (if swp p n' (swp p n' i) = n' then _ else y (swp p n' (swp p n' i))) ≠ 0
        rw [swp_swp, if_neg (by omega)]
        exact hy
      · refine Eq.trans ?_ ((vdot_swap (s := p) (k := n') _ _ hp (Nat.lt_succ_self n')).trans (key t ht))
        refine vdot_congr _ (fun _ _ => rfl) fun i _ => ?_
        rw [← hb]
        show a i t = a (swp p n' (swp p n' i)) t
        rw [swp_swp]
    · obtain ⟨y, hy, hz⟩ := homog s n a (by omega)
      refine ⟨y, hy, fun t ht => ?_⟩
      rcases Nat.lt_or_ge t s with h1 | h1
      · exact hz t h1
      · have : t = s := by omega
        subst this
        exact vdot_z2 n fun i hi => Decidable.not_not.mp fun z => q ⟨i, hi, z⟩
/-- independent vectors in the span of s vectors are at most s -/
theorem steinitz {w n s : Nat} {R S : Nat → Vec} (hs : ∀ i, i < n → ∃ c : Vec, ∀ j, j < w → R i j = vdot s c (fun t => S t j)) (hi : ∀ y : Vec, (∀ j, j < w → vdot n y (fun i => R i j) = 0) → ∀ i, i < n → y i = 0) : n ≤ s := by
  rcases Nat.lt_or_ge s n with h | h
  · exfalso
    have : ∃ c : Nat → Vec, ∀ i, i < n → ∀ j, j < w → R i j = vdot s (c i) (fun t => S t j) := by
      refine ⟨fun i => if h : i < n then Classical.choose (hs i h) else fun _ => 0, fun i hi j hj => ?_⟩
      dsimp only
      rw [dif_pos hi]
      exact Classical.choose_spec (hs i hi) j hj
    obtain ⟨c, hc⟩ := this
    obtain ⟨y, ⟨i, hin, hy⟩, hz⟩ := homog s n c h
    refine hy (hi y (fun j hj => ?_) i hin)
    rw [vdot_congr n (fun _ _ => rfl) (fun i hi => hc i hi j hj), vdot_two c (fun t => S t j) y s n, vdot_comm]
    exact vdot_z2 s hz
  · exact h

/-! ### spans of rows -/
def InSp (w : Nat) (M : Mat) (v : Vec) : Prop := ∃ y : Vec, ∀ j, j < w → v j = vdot M.length y (fun i => (ent M i j : Rat))
abbrev rowV (M : Mat) (i : Nat) : Vec := fun j => (ent M i j : Rat)
theorem InSp.row (w : Nat) {M : Mat} {i : Nat} (hi : i < M.length) : InSp w M (rowV M i) := ⟨fun k => if k = i then 1 else 0, fun j _ => by rw [vdot_one, if_pos hi]⟩
theorem InSp.zero (w : Nat) (M : Mat) : InSp w M (fun _ => 0) := ⟨fun _ => 0, fun j _ => by rw [vdot_comm, vdot_zero]⟩
theorem InSp.lin {w : Nat} {M : Mat} {u v : Vec} (h : InSp w M u) (h' : InSp w M v) (a b : Rat) : InSp w M (fun j => a * u j + b * v j) := by
  obtain ⟨y, hy⟩ := h
  obtain ⟨x, hx⟩ := h'
  refine ⟨fun i => a * y i + b * x i, fun j hj => ?_⟩
  show a * u j + b * v j = _
  rw [hy j hj, hx j hj, vdot_comm _ (fun i => a * y i + b * x i), vdot_add, vdot_mul, vdot_mul, vdot_comm, vdot_comm _ _ x]
theorem InSp.congr {w : Nat} {M : Mat} {u v : Vec} (h : InSp w M u) (e : ∀ j, j < w → v j = u j) : InSp w M v := by
  obtain ⟨y, hy⟩ := h
  exact ⟨y, fun j hj => by rw [e j hj, hy j hj]⟩
theorem InSp.sum {w : Nat} {M : Mat} (y : Vec) (R : Nat → Vec) : ∀ n, (∀ i, i < n → InSp w M (R i)) → InSp w M (fun j => vdot n y (fun i => R i j))
  | 0, _ => InSp.zero w M
  | n + 1, h => ((InSp.sum y R n fun i hi => h i (by omega)).lin (h n (Nat.lt_succ_self n)) 1 (y n)).congr fun j _ => by
      rw [vdot_last]
      grind
theorem InSp.trans {w : Nat} {M N : Mat} {v : Vec} (h : InSp w N v) (hr : ∀ i, i < N.length → InSp w M (rowV N i)) : InSp w M v := by
  obtain ⟨y, hy⟩ := h
  exact (InSp.sum y (rowV N) N.length hr).congr hy
def Ind (w : Nat) (N : Mat) : Prop := ∀ y : Vec, (∀ j, j < w → vdot N.length y (fun i => (ent N i j : Rat)) = 0) → ∀ i, i < N.length → y i = 0
/-- z independent rows with the span of M -/
def RkIs (w : Nat) (M : Mat) (z : Nat) : Prop := ∃ N : Mat, N.length = z ∧ Ind w N ∧ ∀ v, InSp w N v ↔ InSp w M v
theorem RkIs.le {w z z' : Nat} {M M' : Mat} (h : RkIs w M z) (h' : RkIs w M' z') (hs : ∀ v, InSp w M v → InSp w M' v) : z ≤ z' := by
  obtain ⟨N, rfl, i, s⟩ := h
  obtain ⟨N', rfl, i', s'⟩ := h'
  refine steinitz (R := rowV N) (S := rowV N') (w := w) (fun t ht => ?_) i
  exact (s' _).mpr (hs _ ((s _).mp (InSp.row w ht)))
theorem ent_snoc {M : Mat} {b : List Int} (i j : Nat) : ent (M ++ [b]) i j = if i < M.length then ent M i j else if i = M.length then b.getD j 0 else 0 := by
  unfold ent
  simp only [List.getD_eq_getElem?_getD]
  by_cases h : i < M.length
  · rw [if_pos h, List.getElem?_append_left h]
  · rw [if_neg h, List.getElem?_append_right (by omega)]
    by_cases e : i = M.length
    · subst e
      rw [if_pos rfl, Nat.sub_self]
      rfl
    · have : ([b] : Mat)[i - M.length]? = none := List.getElem?_eq_none (by rw [List.length_singleton]; omega)
      rw [if_neg e, this]
      rfl
theorem InSp.snoc {w : Nat} {M : Mat} {b : List Int} {v : Vec} (h : InSp w M v) : InSp w (M ++ [b]) v := h.trans fun i hi => (InSp.row w (show i < (M ++ [b]).length by rw [List.length_append]; omega)).congr fun j _ => by
  show (ent M i j : Rat) = (ent (M ++ [b]) i j : Rat)
  rw [ent_snoc, if_pos hi]
theorem InSp.unsnoc {w : Nat} {M : Mat} {b : List Int} {v : Vec} (hb : InSp w M (fun j => (b.getD j 0 : Rat))) (h : InSp w (M ++ [b]) v) : InSp w M v := h.trans fun i hi => by
  rw [List.length_append, List.length_singleton] at hi
  by_cases q : i < M.length
  · exact (InSp.row w q).congr fun j _ => by show (ent (M ++ [b]) i j : Rat) = _; rw [ent_snoc, if_pos q]
  · exact hb.congr fun j _ => by show (ent (M ++ [b]) i j : Rat) = _; rw [ent_snoc, if_neg q, if_pos (by omega)]
/-- a row of the span leaves the rank -/
theorem rank_same {w z z' : Nat} {M : Mat} {b : List Int} (h : RkIs w M z) (h' : RkIs w (M ++ [b]) z') (hb : InSp w M (fun j => (b.getD j 0 : Rat))) : z = z' :=
  Nat.le_antisymm (h.le h' fun _ => InSp.snoc) (h'.le h fun _ => InSp.unsnoc hb)
/-- a row that a vector of the kernel moves makes it greater -/
theorem rank_more {w z z' : Nat} {M : Mat} {b : List Int} (h : RkIs w M z) (h' : RkIs w (M ++ [b]) z') {c : Vec} (hc : ∀ i, i < M.length → vdot w c (rowV M i) = 0) (hb : vdot w c (fun j => (b.getD j 0 : Rat)) ≠ 0) : z ≠ z' := by
  obtain ⟨N, rfl, i, s⟩ := h
  obtain ⟨N', rfl, i', s'⟩ := h'
  have hN : ∀ t, t < N.length → vdot w c (rowV N t) = 0 := fun t ht => by
    obtain ⟨y, hy⟩ := (s _).mp (InSp.row w ht)
    rw [vdot_congr w (fun _ _ => rfl) hy]
    rw [vdot_congr w (fun _ _ => rfl) fun j _ => vdot_comm _ _ _, vdot_two (fun j => fun i => (ent M i j : Rat)) y c M.length w, vdot_comm]
    exact vdot_z2 _ hc
  have : N.length + 1 ≤ N'.length := by
    refine steinitz (R := fun t => if t < N.length then rowV N t else fun j => (b.getD j 0 : Rat)) (S := rowV N') (w := w) (fun t ht => ?_) fun y hy => ?_
    · refine (s' _).mpr ?_
      by_cases q : t < N.length
      · simp only [if_pos q]
        exact InSp.snoc ((s _).mp (InSp.row w q))
      · simp only [if_neg q]
        exact (InSp.row w (show M.length < (M ++ [b]).length by rw [List.length_append]; simp)).congr fun j _ => by
          show _ = (ent (M ++ [b]) M.length j : Rat)
          rw [ent_snoc, if_neg (Nat.lt_irrefl _), if_pos rfl]
    · have e : ∀ j, j < w → vdot N.length y (fun i => (ent N i j : Rat)) + y N.length * (b.getD j 0 : Rat) = 0 := fun j hj => by
        rw [← hy j hj, vdot_last, if_neg (Nat.lt_irrefl _)]
        congr 1
        exact vdot_congr _ (fun _ _ => rfl) fun t ht => by rw [if_pos ht]
      -- the last one is 0
      have e2 : vdot w c (fun j => vdot N.length y (fun i => (ent N i j : Rat)) + y N.length * (b.getD j 0 : Rat)) = 0 := vdot_z2 w e
      rw [vdot_add, vdot_mul] at e2
      have e3 : vdot w c (fun j => vdot N.length y (fun i => (ent N i j : Rat))) = 0 := by
        rw [vdot_congr w (fun _ _ => rfl) fun j _ => vdot_comm _ _ _, vdot_two (fun j => fun i => (ent N i j : Rat)) y c N.length w, vdot_comm]
        exact vdot_z2 _ hN
      rw [e3] at e2
      have yl : y N.length = 0 := by grind
      have := i y fun j hj => by
        have := e j hj
        rw [yl] at this
        grind
      intro t ht
      rcases Nat.lt_or_ge t N.length with q | q
      · exact this t q
      · have : t = N.length := by omega
        rw [this, yl]
  omega
end K51

set_option maxHeartbeats 200000
/-! Bareiss' elimination is exact, and ends in the rank. -/
namespace K51
/-! ### rows that add nothing to a determinant with the rows T -/
def Dep (T : List Row) (u : Row) : Prop := ∀ J : List Nat, J.length = T.length + 1 → D J (u :: T) = 0
section
variable {T : List Row}
theorem Dep.zero : Dep T (fun _ => 0) := fun J hJ => by
  rw [D_row J _ _ hJ]
  exact altE_zero _ _ _ _ fun _ _ => rfl
theorem Dep.sub {a b : Row} (h : Dep T a) (h' : Dep T b) (q : Int) : Dep T (fun k => a k - q * b k) := fun J hJ => by
  have := D_lin J [] T a b q (by simpa using hJ)
  simp only [List.nil_append] at this
  rw [this, h J hJ, h' J hJ]
  simp
theorem Dep.mul {a : Row} (h : Dep T a) (q : Int) : Dep T (fun k => q * a k) := by
  have := (Dep.zero (T := T)).sub h (-q)
  have e : (fun k => (0 : Int) - -q * a k) = fun k => q * a k := funext fun k => by grind
  rwa [e] at this
theorem Dep.own {t : Row} : Dep (t :: T) t := fun J hJ => D_two J T t (by simpa using hJ)
theorem Dep.cons {u t : Row} (h : Dep T u) : Dep (t :: T) u := fun J hJ => by
  have := D_swap J [] T u t (by simpa using hJ)
  simp only [List.nil_append] at this
  rw [this, D_row J _ _ (by simpa using hJ)]
  have : altE (fun J' => D J' (u :: T)) (fun j => t j) [] J = altE (fun _ => 0) (fun j => t j) [] J := altE_congr J [] fun l hl => h l (by simp at hl hJ; omega)
  rw [this]
  have : ∀ (J pre : List Nat), altE (fun _ => (0 : Int)) (fun j => t j) pre J = 0 := by
    intro J
    induction J with
    | nil => intro _; rfl
    | cons j J ih => intro pre; simp [altE, ih]
  rw [this]
  rfl
theorem D_smul (J : List Nat) (T : List Row) (a : Row) (q : Int) (h : J.length = T.length + 1) : D J ((fun k => q * a k) :: T) = q * D J (a :: T) := by
  have := D_lin J [] T (fun _ => 0) a (-q) (by simpa using h)
  simp only [List.nil_append] at this
  have e : (fun k => (0 : Int) - -q * a k) = fun k => q * a k := funext fun k => by grind
  rw [e] at this
  rw [this, Dep.zero J h]
  grind
/-- u and c o give the same -/
theorem Dep.eq {u o : Row} {c : Int} (h : Dep T (fun k => u k - c * o k)) {J : List Nat} (hJ : J.length = T.length + 1) : D J (u :: T) = c * D J (o :: T) := by
  have := D_lin J [] T u o c (by simpa using hJ)
  simp only [List.nil_append] at this
  have := h J hJ
  omega
/-- a first row that is 0 in the columns J -/
theorem D_only (j : Nat) (J : List Nat) (u : Row) (h : J.length = T.length) (hz : ∀ k ∈ J, u k = 0) : D (j :: J) (u :: T) = u j * D J T := by
  rw [D_row (j :: J) u T (by simpa using h)]
  show u j * D ([] ++ J) T - altE (fun J' => D J' T) (fun j => u j) ([] ++ [j]) J = _
  rw [altE_zero _ _ _ _ hz]
  simp
end
/-! ### the elimination -/
structure BI (M : Mat) (m w k : Nat) (S : BSt) : Prop where
  rect : Rect m w S.g
  zm : S.place ≤ m
  la : S.last ≠ 0
  low : ∀ i, S.place ≤ i → i < m → ∀ j, j < k → ent S.g i j = 0
  dt : ∃ (J : List Nat) (T : List Row), J.length = T.length ∧ (∀ j ∈ J, j < k) ∧ D J T = S.last ∧ ∀ i, S.place ≤ i → i < m → ∃ o : Row, Dep T (fun j => ent S.g i j - S.last * o j)
  stair : ∃ pc : Nat → Nat, (∀ i, i < S.place → pc i < k ∧ ent S.g i (pc i) ≠ 0 ∧ ∀ j, j < pc i → ent S.g i j = 0) ∧ ∀ i i', i < i' → i' < S.place → pc i < pc i'
  spn : ∀ v, InSp w S.g v ↔ InSp w M v
theorem start_bi {M : Mat} {m w : Nat} (h : Rect m w M) : BI M m w 0 ⟨M, 1, 0⟩ where
  rect := h
  zm := Nat.zero_le _
  la := by show (1 : Int) ≠ 0; decide
  low := fun i _ _ j hj => absurd hj (Nat.not_lt_zero j)
  dt := ⟨[], [], rfl, (fun j hj => nomatch hj), rfl, fun i _ _ => ⟨fun j => ent M i j, fun J hJ => by
    have e : (fun j => ent M i j - 1 * ent M i j) = fun _ => (0 : Int) := funext fun j => by omega
    show D J ((fun j => ent M i j - 1 * ent M i j) :: []) = 0
    rw [e]
    exact Dep.zero J hJ⟩⟩
  stair := ⟨fun _ => 0, fun i hi => absurd hi (Nat.not_lt_zero i), fun i i' _ hi => absurd hi (Nat.not_lt_zero i')⟩
  spn := fun v => Iff.rfl
theorem getD_rowB {last : Int} {k w : Nat} {l r : List Int} (h1 : l.length = w) (h2 : r.length = w) (j : Nat) (hj : j < w) : (rowB last k l r).getD j 0 = (r.getD j 0 * l.getD k 0 - l.getD j 0 * r.getD k 0).fdiv last := by
  unfold rowB
  simp only [List.getD_eq_getElem?_getD, List.getElem?_zipWith]
  rw [List.getElem?_eq_getElem (show j < r.length by omega), List.getElem?_eq_getElem (show j < l.length by omega)]
  rfl
theorem ent_elimB {last : Int} {k z m w : Nat} {M : Mat} (h : Rect m w M) (hz : z < m) {i j : Nat} (hi : i < m) (hj : j < w) :
    ent (elimB last k z M (m - z - 1)) i j = if z < i then (ent M i j * ent M z k - ent M z j * ent M i k).fdiv last else ent M i j := by
  have := (elimB_row (last := last) (k := k) (z := z) (M := M) (m - z - 1) i (by rw [h.1]; omega)).2
  unfold ent
  rw [this]
  by_cases q : z < i
  · rw [if_pos ⟨q, by omega⟩, if_pos q, getD_rowB (h.row hz) (h.row hi) j hj]
  · rw [if_neg (fun z => q z.1), if_neg q]
/-- the rows' span under rows that give each other -/
theorem span_eq {m w : Nat} {M N : Mat} (hM : Rect m w M) (hN : Rect m w N) (h : ∀ i, i < m → InSp w M (rowV N i)) (h' : ∀ i, i < m → InSp w N (rowV M i)) (v : Vec) : InSp w N v ↔ InSp w M v :=
  ⟨fun q => q.trans fun i hi => h i (by rw [← hN.1]; exact hi), fun q => q.trans fun i hi => h' i (by rw [← hM.1]; exact hi)⟩
theorem int_ne {x : Int} (h : x ≠ 0) : (x : Rat) ≠ 0 := fun z => h (by
  have : ((x : Int) : Rat) = ((0 : Int) : Rat) := z
  exact Rat.intCast_inj.mp this)
theorem elim_bi {M : Mat} {m w k : Nat} {S : BSt} (I : BI M m w k S) (hk : k < w) (hz : S.place < m) (hp : ent S.g S.place k ≠ 0) :
    BI M m w (k + 1) ⟨elimB S.last k S.place S.g (m - S.place - 1), ent S.g S.place k, S.place + 1⟩ ∧ ∀ i, S.place < i → i < m → ∀ j, S.last * ent (elimB S.last k S.place S.g (m - S.place - 1)) i j = ent S.g i j * ent S.g S.place k - ent S.g S.place j * ent S.g i k := by
  obtain ⟨R, zm, la, low, ⟨J, T, lJ, Jk, eD, dep⟩, ⟨pc, st, inc⟩, spn⟩ := I
  obtain ⟨g, last, z⟩ := S
  dsimp only at *
  obtain ⟨oz, doz⟩ := dep z (Nat.le_refl _) hz
  have RE : Rect m w (elimB last k z g (m - z - 1)) := elimB_rect R hz _ (by omega)
  have EE := fun {i j : Nat} (hi : i < m) (hj : j < w) => ent_elimB (last := last) (k := k) R hz hi hj
  -- the new determinant
  have dz : D (k :: J) (oz :: T) = ent g z k := by
    have e1 := Dep.eq (T := T) (u := fun j => ent g z j) doz (J := k :: J) (by simp [lJ])
    have e2 := D_only (T := T) k J (fun j => ent g z j) lJ fun j hj => low z (Nat.le_refl _) hz j (Jk j hj)
    rw [e1, eD] at e2
    have : last * D (k :: J) (oz :: T) = last * ent g z k := by rw [e2, Int.mul_comm]
    exact Int.eq_of_mul_eq_mul_left la this
  have main : ∀ i, z < i → i < m → ∃ o : Row, (∀ j, ent g i j * ent g z k - ent g z j * ent g i k = last * D (j :: k :: J) (o :: oz :: T)) ∧ Dep (oz :: T) (fun j => (ent g i j * ent g z k - ent g z j * ent g i k) - last * ent g z k * o j) := fun i h1 h2 => by
    obtain ⟨o, d1⟩ := dep i (by omega) h2
    have d2 : Dep (oz :: T) (fun j => (ent g i j * ent g z k - ent g z j * ent g i k) - last * ent g z k * o j) := by
      have a1 := (d1.cons (t := oz)).mul (ent g z k)
      have a2 := a1.sub (doz.cons (t := oz)) (ent g i k)
      have a3 := a2.sub (Dep.own (T := T) (t := oz)) (ent g i k * last)
      have e : (fun j => ent g z k * (ent g i j - last * o j) - ent g i k * (ent g z j - last * oz j) - ent g i k * last * oz j) = (fun j => (ent g i j * ent g z k - ent g z j * ent g i k) - last * ent g z k * o j) := funext fun j => by grind
      rwa [e] at a3
    refine ⟨o, fun j => ?_, d2⟩
    have e1 := Dep.eq (T := oz :: T) (u := fun j => ent g i j * ent g z k - ent g z j * ent g i k) (o := o) (c := last * ent g z k) d2 (J := j :: k :: J) (by simp [lJ])
    have e2 := D_only (T := oz :: T) j (k :: J) (fun j => ent g i j * ent g z k - ent g z j * ent g i k) (by simp [lJ]) fun c hc => by
      rcases List.mem_cons.mp hc with rfl | hc
      · rw [Int.mul_comm]; exact Int.sub_self _
      · show ent g i c * ent g z k - ent g z c * ent g i k = 0
        rw [low i (by omega) h2 c (Jk c hc), low z (Nat.le_refl _) hz c (Jk c hc)]; simp
    rw [e1, dz] at e2
    have : ent g z k * (ent g i j * ent g z k - ent g z j * ent g i k) = ent g z k * (last * D (j :: k :: J) (o :: oz :: T)) := by
      have e3 : last * ent g z k * D (j :: k :: J) (o :: oz :: T) = (ent g i j * ent g z k - ent g z j * ent g i k) * ent g z k := e2
      rw [Int.mul_comm (ent g z k), ← e3]
      grind
    exact Int.eq_of_mul_eq_mul_left hp this
  have ex : ∀ i, z < i → i < m → ∀ j, last * ent (elimB last k z g (m - z - 1)) i j = ent g i j * ent g z k - ent g z j * ent g i k := fun i h1 h2 j => by
    rcases Nat.lt_or_ge j w with hj | hj
    · obtain ⟨o, e, _⟩ := main i h1 h2
      rw [EE h2 hj, if_pos h1, e j, Int.mul_fdiv_cancel_left _ la]
    · rw [ent_out RE (.inr hj), ent_out R (.inr hj), ent_out R (.inr hj)]; simp
  have keep : ∀ i, i ≤ z → ∀ j, ent (elimB last k z g (m - z - 1)) i j = ent g i j := fun i hi j => by
    rcases Nat.lt_or_ge j w with hj | hj
    · rw [EE (by omega) hj, if_neg (by omega)]
    · rw [ent_out RE (.inr hj), ent_out R (.inr hj)]
  refine ⟨⟨RE, hz, hp, ?_, ⟨k :: J, oz :: T, by simp [lJ], fun j hj => ?_, dz, fun i h1 h2 => ?_⟩, ⟨fun i => if i = z then k else pc i, fun i hi => ?_, fun i i' h1 h2 => ?_⟩, fun v => ?_⟩, ex⟩
  · intro i h1 h2 j hj
    have h1 : z + 1 ≤ i := h1
    have e := ex i (by omega) h2 j
    have : ent g i j * ent g z k - ent g z j * ent g i k = 0 := by
      rcases Nat.lt_or_ge j k with h3 | h3
      · rw [low i (by omega) h2 j h3, low z (Nat.le_refl _) hz j h3]; simp
      · have : j = k := by omega
        subst this
        rw [Int.mul_comm]; exact Int.sub_self _
    rw [this] at e
    exact (Int.mul_eq_zero.mp e).resolve_left la
  · rcases List.mem_cons.mp hj with rfl | hj
    · exact Nat.lt_succ_self _
    · exact Nat.lt_succ_of_lt (Jk j hj)
  · have h1 : z + 1 ≤ i := h1
    obtain ⟨o, e, d2⟩ := main i (by omega) h2
    refine ⟨o, fun J' hJ' => ?_⟩
    have h3 := D_smul J' (oz :: T) (fun j => ent (elimB last k z g (m - z - 1)) i j - ent g z k * o j) last hJ'
    have h4 : (fun j => last * (ent (elimB last k z g (m - z - 1)) i j - ent g z k * o j)) = fun j => (ent g i j * ent g z k - ent g z j * ent g i k) - last * ent g z k * o j := funext fun j => by
      rw [Int.mul_sub, ex i (by omega) h2 j]; grind
    rw [h4, d2 J' hJ'] at h3
    exact (Int.mul_eq_zero.mp h3.symm).resolve_left la
  · have hi : i < z + 1 := hi
    show (if i = z then k else pc i) < k + 1 ∧ ent (elimB last k z g (m - z - 1)) i (if i = z then k else pc i) ≠ 0 ∧ ∀ j, j < (if i = z then k else pc i) → ent (elimB last k z g (m - z - 1)) i j = 0
    by_cases e : i = z
    · rw [if_pos e, e]
      exact ⟨Nat.lt_succ_self _, by rw [keep z (Nat.le_refl _)]; exact hp, fun j hj => by rw [keep z (Nat.le_refl _)]; exact low z (Nat.le_refl _) hz j hj⟩
    · rw [if_neg e]
      obtain ⟨a, b, c⟩ := st i (by omega)
      exact ⟨by omega, by rw [keep i (by omega)]; exact b, fun j hj => by rw [keep i (by omega)]; exact c j hj⟩
  · have h2 : i' < z + 1 := h2
    show (if i = z then k else pc i) < (if i' = z then k else pc i')
    rw [if_neg (show i ≠ z by omega)]
    by_cases e : i' = z
    · rw [if_pos e]; exact (st i (by omega)).1
    · rw [if_neg e]; exact inc i i' h1 (by omega)
  · refine (span_eq R RE (fun i hi => ?_) (fun i hi => ?_) v).trans (spn v)
    · rcases Nat.lt_or_ge z i with h | h
      · refine ((InSp.row w (M := g) (show i < g.length by rw [R.1]; exact hi)).lin (InSp.row w (show z < g.length by rw [R.1]; exact hz)) ((ent g z k : Rat) / (last : Rat)) (-((ent g i k : Rat) / (last : Rat)))).congr fun j _ => ?_
        have e := ex i h hi j
        have e2 : (last : Rat) * (ent (elimB last k z g (m - z - 1)) i j : Rat) = (ent g i j : Rat) * (ent g z k : Rat) - (ent g z j : Rat) * (ent g i k : Rat) := by
          rw [← Rat.intCast_mul, ← Rat.intCast_mul, ← Rat.intCast_mul, ← Rat.intCast_sub, e]
        have := int_ne la
        show (ent (elimB last k z g (m - z - 1)) i j : Rat) = (ent g z k : Rat) / (last : Rat) * (ent g i j : Rat) + -((ent g i k : Rat) / (last : Rat)) * (ent g z j : Rat)
        grind
      · exact (InSp.row w (show i < g.length by rw [R.1]; exact hi)).congr fun j _ => by
          show (ent (elimB last k z g (m - z - 1)) i j : Rat) = _
          rw [keep i h]
    · rcases Nat.lt_or_ge z i with h | h
      · refine ((InSp.row w (M := elimB last k z g (m - z - 1)) (show i < (elimB last k z g (m - z - 1)).length by rw [RE.1]; exact hi)).lin (InSp.row w (show z < (elimB last k z g (m - z - 1)).length by rw [RE.1]; exact hz)) ((last : Rat) / (ent g z k : Rat)) ((ent g i k : Rat) / (ent g z k : Rat))).congr fun j _ => ?_
        have e := ex i h hi j
        have e2 : (last : Rat) * (ent (elimB last k z g (m - z - 1)) i j : Rat) = (ent g i j : Rat) * (ent g z k : Rat) - (ent g z j : Rat) * (ent g i k : Rat) := by
          rw [← Rat.intCast_mul, ← Rat.intCast_mul, ← Rat.intCast_mul, ← Rat.intCast_sub, e]
        have := int_ne hp
        show (ent g i j : Rat) = (last : Rat) / (ent g z k : Rat) * (ent (elimB last k z g (m - z - 1)) i j : Rat) + (ent g i k : Rat) / (ent g z k : Rat) * (ent (elimB last k z g (m - z - 1)) z j : Rat)
        rw [keep z (Nat.le_refl _)]
        grind
      · exact (InSp.row w (show i < (elimB last k z g (m - z - 1)).length by rw [RE.1]; exact hi)).congr fun j _ => by
          show _ = (ent (elimB last k z g (m - z - 1)) i j : Rat)
          rw [keep i h]
theorem swap_bi {M : Mat} {m w k b : Nat} {S : BSt} (I : BI M m w k S) (hz : S.place < m) (h1 : S.place ≤ b) (h2 : b < m) : BI M m w k ⟨swp2 S.g S.place b, S.last, S.place⟩ := by
  obtain ⟨R, zm, la, low, ⟨J, T, lJ, Jk, eD, dep⟩, ⟨pc, st, inc⟩, spn⟩ := I
  obtain ⟨g, last, z⟩ := S
  dsimp only at *
  have E : ∀ i j, ent (swp2 g z b) i j = ent g (swp z b i) j := ent_swp2 R hz h2
  have sr : ∀ i, z ≤ i → i < m → z ≤ swp z b i ∧ swp z b i < m := fun i _ _ => by unfold swp; repeat' split <;> try omega
  have sa : ∀ i, i < z → swp z b i = i := fun i _ => by unfold swp; rw [if_neg (by omega), if_neg (by omega)]
  refine ⟨R.swp2 hz h2, zm, la, fun i a1 a2 j hj => ?_, ⟨J, T, lJ, Jk, eD, fun i a1 a2 => ?_⟩, ⟨pc, fun i hi => ?_, inc⟩, fun v => ?_⟩
  · show ent (swp2 g z b) i j = 0
    rw [E]
    exact low _ (sr i a1 a2).1 (sr i a1 a2).2 j hj
  · obtain ⟨o, h⟩ := dep _ (sr i a1 a2).1 (sr i a1 a2).2
    refine ⟨o, ?_⟩
    have e : (fun j => ent (swp2 g z b) i j - last * o j) = fun j => ent g (swp z b i) j - last * o j := funext fun j => by rw [E]
    show Dep T (fun j => ent (swp2 g z b) i j - last * o j)
    rw [e]
    exact h
  · obtain ⟨a, c, d⟩ := st i hi
    show pc i < k ∧ ent (swp2 g z b) i (pc i) ≠ 0 ∧ ∀ j, j < pc i → ent (swp2 g z b) i j = 0
    refine ⟨a, by rw [E, sa i hi]; exact c, fun j hj => by rw [E, sa i hi]; exact d j hj⟩
  · refine (span_eq R (R.swp2 hz h2) (fun i hi => ?_) (fun i hi => ?_) v).trans (spn v)
    · exact (InSp.row w (show swp z b i < g.length by rw [R.1]; exact swp_lt hz h2 hi)).congr fun j _ => by
        show (ent (swp2 g z b) i j : Rat) = _
        rw [E]
    · exact (InSp.row w (show swp z b i < (swp2 g z b).length by rw [(R.swp2 hz h2).1]; exact swp_lt hz h2 hi)).congr fun j _ => by
        show _ = (ent (swp2 g z b) (swp z b i) j : Rat)
        rw [E, swp_swp]
theorem skip_bi {M : Mat} {m w k : Nat} {S : BSt} (I : BI M m w k S) (h : ∀ i, S.place ≤ i → i < m → ent S.g i k = 0) : BI M m w (k + 1) S := by
  obtain ⟨R, zm, la, low, ⟨J, T, lJ, Jk, eD, dep⟩, ⟨pc, st, inc⟩, spn⟩ := I
  refine ⟨R, zm, la, fun i a1 a2 j hj => ?_, ⟨J, T, lJ, fun j hj => Nat.lt_succ_of_lt (Jk j hj), eD, dep⟩, ⟨pc, fun i hi => ⟨Nat.lt_succ_of_lt (st i hi).1, (st i hi).2⟩, inc⟩, spn⟩
  rcases Nat.lt_or_ge j k with h3 | h3
  · exact low i a1 a2 j h3
  · have : j = k := by omega
    rw [this]; exact h i a1 a2
/-- the numbers of a state -/
def BSz (n : Nat) (g : Mat) : Prop := ∀ i j, (ent g i j).natAbs < 2 ^ n
theorem step_bi {M : Mat} {m w k n : Nat} {S : BSt} (I : BI M m w k S) (hk : k < w) (hn : BSz n S.g) : BI M m w (k + 1) (stepB k S) ∧ BSz (2 * n + 1) (stepB k S).g := by
  have lg : S.g.length = m := I.rect.1
  have up : BSz (2 * n + 1) S.g := fun i j => Nat.lt_of_lt_of_le (hn i j) (pow_le (by omega))
  unfold stepB
  by_cases h0 : S.place = S.g.length
  · rw [if_pos h0]
    exact ⟨skip_bi I fun i h1 h2 => by omega, up⟩
  · rw [if_neg h0]
    have hz : S.place < m := by have := I.zm; omega
    have mf : ∀ j, j ∈ foundB S.g k S.place ↔ S.place ≤ j ∧ j < m ∧ ent S.g j k ≠ 0 := fun j => by
      unfold foundB
      rw [List.mem_filter, List.mem_map, lg]
      constructor
      · rintro ⟨⟨t, ht, rfl⟩, h2⟩
        have := List.mem_range.mp ht
        exact ⟨by omega, by omega, of_decide_eq_true h2⟩
      · rintro ⟨h1, h2, h3⟩
        exact ⟨⟨j - S.place, List.mem_range.mpr (by omega), by omega⟩, decide_eq_true h3⟩
    cases hf : foundB S.g k S.place with
    | nil =>
      refine ⟨skip_bi I fun i h1 h2 => Decidable.not_not.mp fun z => ?_, up⟩
      have := (mf i).mpr ⟨h1, h2, z⟩
      rw [hf] at this
      cases this
    | cons b fl =>
      obtain ⟨b1, b2, b3⟩ := (mf b).mp (by rw [hf]; exact List.mem_cons_self ..)
      have I2 := swap_bi I hz b1 b2
      have E : ∀ i j, ent (swp2 S.g S.place b) i j = ent S.g (swp S.place b i) j := ent_swp2 I.rect hz b2
      have hp : ent (swp2 S.g S.place b) S.place k ≠ 0 := by
        rw [E]; unfold swp; rw [if_pos rfl]; exact b3
      have key := elim_bi I2 hk hz hp
      dsimp only at key ⊢
      rw [lg]
      refine ⟨key.1, fun i j => ?_⟩
      have RE := key.1.rect
      dsimp only at RE
      rcases Nat.lt_or_ge i m with hi | hi
      case inr => rw [ent_out RE (.inl hi)]; exact Nat.pow_pos (by decide)
      rcases Nat.lt_or_ge j w with hj | hj
      case inr => rw [ent_out RE (.inr hj)]; exact Nat.pow_pos (by decide)
      have sz : ∀ i j, (ent (swp2 S.g S.place b) i j).natAbs < 2 ^ n := fun i j => by rw [E]; exact hn _ _
      rcases Nat.lt_or_ge S.place i with h | h
      · have e := key.2 i h hi j
        have l1 : 1 ≤ S.last.natAbs := by have := I.la; omega
        have e3 : S.last.natAbs * (ent (elimB S.last k S.place (swp2 S.g S.place b) (m - S.place - 1)) i j).natAbs ≤ (ent (swp2 S.g S.place b) i j * ent (swp2 S.g S.place b) S.place k).natAbs + (ent (swp2 S.g S.place b) S.place j * ent (swp2 S.g S.place b) i k).natAbs := by
          rw [← Int.natAbs_mul, e]
          exact Int.natAbs_sub_le _ _
        rw [Int.natAbs_mul, Int.natAbs_mul] at e3
        have m1 : (ent (swp2 S.g S.place b) i j).natAbs * (ent (swp2 S.g S.place b) S.place k).natAbs < 2 ^ n * 2 ^ n := Nat.mul_lt_mul'' (sz _ _) (sz _ _)
        have m2 : (ent (swp2 S.g S.place b) S.place j).natAbs * (ent (swp2 S.g S.place b) i k).natAbs < 2 ^ n * 2 ^ n := Nat.mul_lt_mul'' (sz _ _) (sz _ _)
        have m3 : 1 * (ent (elimB S.last k S.place (swp2 S.g S.place b) (m - S.place - 1)) i j).natAbs ≤ S.last.natAbs * (ent (elimB S.last k S.place (swp2 S.g S.place b) (m - S.place - 1)) i j).natAbs := Nat.mul_le_mul_right _ l1
        have e4 : 2 ^ (2 * n + 1) = 2 ^ n * 2 ^ n + 2 ^ n * 2 ^ n := by rw [Nat.pow_succ, Nat.two_mul, Nat.pow_add]; omega
        omega
      · have := ent_elimB (last := S.last) (k := k) (I.rect.swp2 hz b2) hz hi hj
        rw [this, if_neg (by omega)]
        exact Nat.lt_of_lt_of_le (sz i j) (pow_le (by omega))
def dbl : Nat → Nat → Nat
  | n, 0 => n
  | n, k + 1 => 2 * dbl n k + 1
theorem run_bi {M : Mat} {m w n : Nat} (h : Rect m w M) (hn : BSz n M) : ∀ k, k ≤ w → BI M m w k (runB M k) ∧ BSz (dbl n k) (runB M k).g
  | 0, _ => ⟨start_bi h, hn⟩
  | k + 1, hk => by
    obtain ⟨I, s⟩ := run_bi h hn k (by omega)
    exact step_bi I (by omega) s
/-- rows in a staircase are independent -/
theorem stair_ind2 {w s : Nat} {B : Mat} {pc : Nat → Nat} (hw : ∀ i, i < s → pc i < w) (st : ∀ i, i < s → ent B i (pc i) ≠ 0 ∧ ∀ j, j < pc i → ent B i j = 0) (inc : ∀ i i', i < i' → i' < s → pc i < pc i') :
    ∀ y : Vec, (∀ j, j < w → vdot s y (fun i => (ent B i j : Rat)) = 0) → ∀ i, i < s → y i = 0 := by
  intro y hy
  have : ∀ n i, i < n → i < s → y i = 0 := by
    intro n
    induction n with
    | zero => intro i h; omega
    | succ n ih =>
      intro i hi his
      rcases Nat.lt_or_ge i n with h | h
      · exact ih i h his
      · have e : i = n := by omega
        subst e
        have c := hy (pc i) (hw i his)
        have only : ∀ k, k ≤ s → vdot k y (fun t => (ent B t (pc i) : Rat)) = if i < k then y i * (ent B i (pc i) : Rat) else 0 := by
          intro k
          induction k with
          | zero => intro _; rfl
          | succ k ihk =>
            intro hk
            simp only [vdot]
            rw [ihk (by omega)]
            rcases Nat.lt_trichotomy k i with h1 | h1 | h1
            · rw [if_neg (by omega), if_neg (by omega), ih k h1 (by omega)]; grind
            · subst h1
              rw [if_neg (by omega), if_pos (by omega)]; grind
            · have z : ent B k (pc i) = 0 := (st k (by omega)).2 _ (inc i k h1 (by omega))
              rw [if_pos h1, if_pos (by omega), z]
              grind
        rw [only s (Nat.le_refl _), if_pos his] at c
        have := int_ne (st i his).1
        grind
  exact fun i hi => this (i + 1) i (by omega) hi
theorem ent_take {M : Mat} {z i : Nat} (hi : i < z) (j : Nat) : ent (M.take z) i j = ent M i j := by
  unfold ent
  simp only [List.getD_eq_getElem?_getD, List.getElem?_take, if_pos hi]
/-- the elimination ends in the rank -/
theorem run_rk {M : Mat} {m w n : Nat} (h : Rect m w M) (hn : BSz n M) : RkIs w M (runB M w).place := by
  obtain ⟨I, _⟩ := run_bi h hn w (Nat.le_refl _)
  obtain ⟨R, zm, la, low, _, ⟨pc, st, inc⟩, spn⟩ := I
  have lt : ((runB M w).g.take (runB M w).place).length = (runB M w).place := by rw [List.length_take, R.1]; omega
  refine ⟨(runB M w).g.take (runB M w).place, lt, fun y hy => ?_, fun v => ?_⟩
  · rw [lt] at hy ⊢
    refine stair_ind2 (B := (runB M w).g) (fun i hi => (st i hi).1) (fun i hi => (st i hi).2) inc y fun j hj => ?_
    rw [← hy j hj]
    exact vdot_congr _ (fun _ _ => rfl) fun i hi => by rw [ent_take hi]
  · refine Iff.trans ⟨fun q => q.trans fun i hi => ?_, fun q => q.trans fun i hi => ?_⟩ (spn v)
    · rw [lt] at hi
      exact (InSp.row w (show i < (runB M w).g.length by rw [R.1]; omega)).congr fun j _ => by
        show (ent ((runB M w).g.take (runB M w).place) i j : Rat) = _
        rw [ent_take hi]
    · rcases Nat.lt_or_ge i (runB M w).place with q | q
      · exact (InSp.row w (show i < ((runB M w).g.take (runB M w).place).length by rw [lt]; exact q)).congr fun j _ => by
          show _ = (ent ((runB M w).g.take (runB M w).place) i j : Rat)
          rw [ent_take q]
      · exact (InSp.zero w _).congr fun j hj => by
          show (ent (runB M w).g i j : Rat) = 0
          rw [low i q (by rw [← R.1]; exact hi) j hj]
          rfl
theorem dbl_mono (n : Nat) : ∀ {k k' : Nat}, k ≤ k' → dbl n k ≤ dbl n k'
  | _, 0, h => by rw [Nat.le_zero.mp h]; exact Nat.le_refl _
  | k, k' + 1, h => by
    rcases Nat.lt_or_ge k (k' + 1) with q | q
    · have := dbl_mono n (show k ≤ k' by omega)
      show _ ≤ 2 * dbl n k' + 1
      omega
    · have : k = k' + 1 := by omega
      rw [this]; exact Nat.le_refl _
theorem run_ok {M : Mat} {m w : Nat} (h : Rect m w M) (hw : w ≤ 4) (hn : BSz 17 M) : RkOk M w := fun k hk => by
  obtain ⟨I, s⟩ := run_bi h hn k (by omega)
  refine ⟨I.la, fun i j => Nat.lt_of_lt_of_le (s i j) (pow_le ?_)⟩
  exact Nat.le_trans (dbl_mono 17 (show k ≤ 4 by omega)) (by decide)
end K51

set_option maxHeartbeats 200000
/-! Numbers: minors of small entries, the sequences of bits, the first states. -/
namespace K51
def fact : Nat → Nat
  | 0 => 1
  | n + 1 => (n + 1) * fact n
theorem D_fact (A : Nat) : ∀ (J : List Nat) (rs : List Row), J.length = rs.length → (∀ r ∈ rs, ∀ j ∈ J, (r j).natAbs ≤ A) → (D J rs).natAbs ≤ fact J.length * A ^ J.length
  | [], rs, _, _ => by simp [D, fact]
  | j :: J, rs, h, hA => by
    have := altE_abs (D J) (fun r => r j) A (fact J.length * A ^ J.length) rs [] (fun r hr => hA r hr j (by simp)) (fun p q r e => by
      subst e
      refine D_fact A J ([] ++ (p ++ q)) (by simp at h ⊢; omega) (fun x hx k hk => hA x ?_ k (by simp [hk]))
      simp at hx ⊢
      rcases hx with hx | hx
      · exact .inl hx
      · exact .inr (.inr hx))
    refine Nat.le_trans this ?_
    rw [← h, List.length_cons, fact, Nat.pow_succ]
    have : (J.length + 1) * (A * (fact J.length * A ^ J.length)) = (J.length + 1) * fact J.length * (A ^ J.length * A) := by
      simp only [Nat.mul_assoc, Nat.mul_comm, Nat.mul_left_comm]
    rw [this]
    exact Nat.le_refl _
theorem mb_of {s m c w k A : Nat} {G : Mx} (hA : ∀ i j, s ≤ i → i < m → c ≤ j → j < w → (G i j).natAbs ≤ A) (hn : ∀ n, n + 1 ≤ m - s → n + 1 ≤ w - c → 2 ^ n * (fact (n + 1) * A ^ (n + 1)) ≤ 2 ^ k) : MB (2 ^ k) s m c w G := fun I J e n d f => by
  obtain ⟨t, ht⟩ : ∃ t, I.length = t + 1 := ⟨I.length - 1, by
    cases I with
    | nil => exact absurd rfl n
    | cons x r => simp⟩
  have l1 := d.len
  have l2 := f.len
  rw [ht, Nat.add_sub_cancel]
  have := D_fact A J (I.map G) (by rw [List.length_map]; exact e.symm) (fun r hr j hj => by
    obtain ⟨i, hi, rfl⟩ := List.mem_map.mp hr
    exact hA i j (d.2 i hi).1 (d.2 i hi).2 (f.2 j hj).1 (f.2 j hj).2)
  rw [show J.length = t + 1 by omega] at this l2
  rw [ht] at l1
  exact Nat.le_trans (Nat.mul_le_mul_left _ this) (hn t l1 l2)
/-! ### the sequences -/
def lcR (r s : Nat) : Nat := if r - s ≤ 2 then 0 else if r - s ≤ 4 then 1 else 2
def kpR (s : Nat) : Nat := if s = 0 then 0 else if s = 1 then 1 else if s ≤ 3 then 2 else 3
structure Sq4 where
  K : Nat
  H : Nat
  X : Nat
  P : Nat
def fsq (r K0 H0 : Nat) : Nat → Sq4
  | 0 => ⟨K0, H0, 1, 0⟩
  | s + 1 => ⟨(fsq r K0 H0 s).K + lcR r s * (fsq r K0 H0 s).H, (fsq r K0 H0 s).K + lcR r s * (fsq r K0 H0 s).H + 1,
      (fsq r K0 H0 s).X + ((fsq r K0 H0 s).K + lcR r s * (fsq r K0 H0 s).H + 2) * (fsq r K0 H0 s).H + ((fsq r K0 H0 s).P + 2), (fsq r K0 H0 s).P + ((fsq r K0 H0 s).K + lcR r s * (fsq r K0 H0 s).H) + (2 * kpR s + 1)⟩
theorem lcR_ok {r s : Nat} (h : r ≤ 8) : r - s ≤ 2 ^ (lcR r s + 1) := by
  unfold lcR
  split
  · assumption
  · split
    · assumption
    · show r - s ≤ 8
      omega
theorem kpR_ok {s : Nat} (h : s < 8) : s + 1 ≤ 2 ^ kpR s := by
  unfold kpR
  split
  · subst_vars; decide
  · split
    · subst_vars; decide
    · split
      · show s + 1 ≤ 4; omega
      · show s + 1 ≤ 8; omega
theorem fnum {m w wide e r K0 H0 : Nat} (hr : r ≤ 8) (hmr : m ≤ r ∨ wide ≤ r) (hx : w ≤ wide ∨ ∀ s, s ≤ r → (fsq r K0 H0 s).X ≤ e) (hk : ∀ s, s ≤ r → (fsq r K0 H0 s).K < e) (hp : ∀ s, s ≤ r → (fsq r K0 H0 s).P < e) :
    FNum m w wide e (lcR r) kpR (fun s => (fsq r K0 H0 s).H) (fun s => (fsq r K0 H0 s).K) (fun s => (fsq r K0 H0 s).X) (fun s => (fsq r K0 H0 s).P) where
  lcc := fun s h1 h2 => by
    rcases hmr with h | h
    · exact .inl (Nat.le_trans (by omega) (lcR_ok hr))
    · exact .inr (Nat.le_trans (by omega) (lcR_ok hr))
  kk := fun s => Nat.le_refl _
  hh := fun s => Nat.le_refl _
  xx := fun s => Nat.le_refl _
  pp := fun s _ _ => Nat.le_refl _
  kpp := fun s h1 h2 => kpR_ok (by omega)
  ke := fun s h1 h2 => hk s (by omega)
  xe := hx.imp id fun h s h1 h2 => h s (by omega)
  pe := fun s h1 h2 => hp s (by omega)
structure Sq3 where
  K : Nat
  H : Nat
  X : Nat
def ssq (n K0 H0 : Nat) : Nat → Sq3
  | 0 => ⟨K0, H0, 1⟩
  | s + 1 => ⟨(ssq n K0 H0 s).K + 2 * lcR n s * (ssq n K0 H0 s).H, (ssq n K0 H0 s).K + 2 * lcR n s * (ssq n K0 H0 s).H + 1,
      (ssq n K0 H0 s).X + ((ssq n K0 H0 s).K + 2 * lcR n s * (ssq n K0 H0 s).H + 3) * ((ssq n K0 H0 s).H * (n - s + 1) + (n - s))⟩
theorem snum {n e K0 H0 : Nat} (hr : n ≤ 8) (hx : ∀ s, s ≤ n → (ssq n K0 H0 s).X ≤ e) (hk : ∀ s, s ≤ n → (ssq n K0 H0 s).K < e) :
    SNum n e (lcR n) (fun s => (ssq n K0 H0 s).H) (fun s => (ssq n K0 H0 s).K) (fun s => (ssq n K0 H0 s).X) where
  lcc := fun s _ => lcR_ok hr
  kk := fun s => Nat.le_refl _
  hh := fun s => Nat.le_refl _
  xx := fun s _ => Nat.le_refl _
  xe := fun s h => hx s h
  ke := fun s h => hk s h
/-- the largest number of bits -/
abbrev eM : Nat := 66900000
/-- the first Hermite form: rank at most 4, entries below 2 ^ 13 -/
abbrev f1 : Nat → Sq4 := fsq 4 57 13
/-- the Smith form of n rows -/
abbrev s2 (n : Nat) : Nat → Sq3 := ssq n (f1 n).P 13
theorem all_le {P : Nat → Prop} [DecidablePred P] {r : Nat} (h : (List.range (r + 1)).all fun s => decide (P s)) : ∀ s, s ≤ r → P s := fun s hs => by
  have := List.all_eq_true.mp h s (List.mem_range.mpr (by omega))
  exact of_decide_eq_true this
theorem f1_X : ∀ s, s ≤ 4 → (f1 s).X ≤ 52400 := all_le (by decide +kernel)
theorem f1_K : ∀ s, s ≤ 4 → (f1 s).K ≤ 1000 := all_le (by decide +kernel)
theorem f1_P : ∀ s, s ≤ 4 → (f1 s).P ≤ 1000 := all_le (by decide +kernel)
theorem fnum1 {m w wide : Nat} (h : m ≤ 4 ∨ wide ≤ 4) : FNum m w wide eM (lcR 4) kpR (fun s => (f1 s).H) (fun s => (f1 s).K) (fun s => (f1 s).X) (fun s => (f1 s).P) :=
  fnum (by decide) h (.inr fun s hs => Nat.le_trans (f1_X s hs) (by decide)) (fun s hs => Nat.lt_of_le_of_lt (f1_K s hs) (by decide)) (fun s hs => Nat.lt_of_le_of_lt (f1_P s hs) (by decide))
theorem s2_X : ∀ n, n ≤ 4 → ∀ s, s ≤ n → (s2 n s).X ≤ 16321000 := by
  have : ∀ n, n ≤ 4 → ((List.range (n + 1)).all fun s => decide ((s2 n s).X ≤ 16321000)) = true := all_le (by decide +kernel)
  exact fun n hn => all_le (this n hn)
theorem s2_K : ∀ n, n ≤ 4 → ∀ s, s ≤ n → (s2 n s).K ≤ 2000 := by
  have : ∀ n, n ≤ 4 → ((List.range (n + 1)).all fun s => decide ((s2 n s).K ≤ 2000)) = true := all_le (by decide +kernel)
  exact fun n hn => all_le (this n hn)
theorem snum2 {n : Nat} (hn : n ≤ 4) : SNum n eM (lcR n) (fun s => (s2 n s).H) (fun s => (s2 n s).K) (fun s => (s2 n s).X) :=
  snum (by omega) (fun s hs => Nat.le_trans (s2_X n hn s hs) (by decide)) (fun s hs => Nat.lt_of_le_of_lt (s2_K n hn s hs) (by decide))
/-- the last Hermite form: r rows, r + n at most 6 -/
abbrev t3 (n r : Nat) : Nat → Sq4 := fsq r (r * (s2 n n).X + 2 * r * r) (s2 n n).X
theorem t3_ok : ∀ n, n ≤ 4 → ∀ r, r ≤ 6 → r + n ≤ 6 → 0 < n → ∀ s, s ≤ r → (t3 n r s).K < eM ∧ (t3 n r s).P < eM := by
  have : ∀ n, n ≤ 4 → ∀ r, r ≤ 6 → ((List.range (r + 1)).all fun s => decide (r + n ≤ 6 → 0 < n → (t3 n r s).K < eM ∧ (t3 n r s).P < eM)) = true := by
    have : ∀ n, n ≤ 4 → ((List.range 7).all fun r => ((List.range (r + 1)).all fun s => decide (r + n ≤ 6 → 0 < n → (t3 n r s).K < eM ∧ (t3 n r s).P < eM))) = true := all_le (by decide +kernel)
    intro n hn r hr
    exact List.all_eq_true.mp (this n hn) r (List.mem_range.mpr (by omega))
  intro n hn r hr h1 h2 s hs
  exact all_le (this n hn r hr) s hs h1 h2
theorem fnum3 {n r w : Nat} (hn : n ≤ 4) (h0 : 0 < n) (hr : r + n ≤ 6) : FNum r w w eM (lcR r) kpR (fun s => (t3 n r s).H) (fun s => (t3 n r s).K) (fun s => (t3 n r s).X) (fun s => (t3 n r s).P) :=
  fnum (by omega) (.inl (Nat.le_refl _)) (.inl (Nat.le_refl _)) (fun s hs => (t3_ok n hn r (by omega) hr h0 s hs).1) (fun s hs => (t3_ok n hn r (by omega) hr h0 s hs).2)
end K51

set_option maxHeartbeats 200000
/-! The first states; what the Hermite and the Smith form give: EOk, KOk. -/
namespace K51
open K51W
section
variable {m w wide r K0 H0 : Nat} {M : Mat}
theorem form_start (R : Rect m w M) (ww : wide ≤ w) (act : MB (2 ^ K0) 0 m 0 wide (ent M)) (sml : ∀ i j, j < wide → (ent M i j).natAbs < 2 ^ H0) (aug : ∀ i j, wide ≤ j → (ent M i j).natAbs < 2 ^ 1) :
    FInv m w wide (fun s => (fsq r K0 H0 s).H) (fun s => (fsq r K0 H0 s).K) (fun s => (fsq r K0 H0 s).X) (fun s => (fsq r K0 H0 s).P) M 0 0 (fun _ => 0) M where
  rect := R
  ker := fun _ => Iff.rfl
  sm := Nat.zero_le _
  sc := Nat.le_refl _
  cw := Nat.zero_le _
  ww := ww
  stair := fun i hi => absurd hi (Nat.not_lt_zero i)
  incr := fun i i' _ hi => absurd hi (Nat.not_lt_zero i')
  low := fun i _ _ j hj => absurd hj (Nat.not_lt_zero j)
  act := act
  sml := fun i _ _ j hj => sml i j hj
  aug := aug
  done := fun I J e n d f => by
    cases I with
    | nil => exact absurd rfl n
    | cons x I =>
      have := d.2 x (List.mem_cons_self ..)
      omega
  first := fun h => absurd h (Nat.lt_irrefl 0)
end
theorem nz_of {r : List Int} {j : Nat} (h : r.getD j 0 ≠ 0) : nz r = true := by
  unfold nz
  rw [List.any_eq_true]
  have hj : j < r.length := by
    rcases Nat.lt_or_ge j r.length with q | q
    · exact q
    · rw [List.getD_eq_getElem?_getD, List.getElem?_eq_none q] at h
      exact absurd rfl h
  have e : r.getD j 0 = r[j] := by rw [List.getD_eq_getElem?_getD, List.getElem?_eq_getElem hj]; rfl
  rw [e] at h
  exact ⟨r[j], List.getElem_mem hj, bne_iff_ne.mpr h⟩
theorem nz_not {r : List Int} (h : ∀ j, j < r.length → r.getD j 0 = 0) : nz r = false := by
  unfold nz
  rw [List.any_eq_false]
  intro x hx
  obtain ⟨j, hj, rfl⟩ := List.mem_iff_getElem.mp hx
  have := h j hj
  rw [List.getD_eq_getElem?_getD, List.getElem?_eq_getElem hj] at this
  have e : r[j] = 0 := this
  rw [e]
  decide
theorem getD_idx {M : Mat} {i : Nat} (h : i < M.length) : M.getD i [] = M[i] := by rw [List.getD_eq_getElem?_getD, List.getElem?_eq_getElem h]; rfl
theorem filter_take {M : Mat} {s : Nat} (hs : s ≤ M.length) (h1 : ∀ i, i < s → nz (M.getD i []) = true) (h2 : ∀ i, s ≤ i → i < M.length → nz (M.getD i []) = false) : M.filter nz = M.take s := by
  conv => lhs; rw [← List.take_append_drop s M]
  rw [List.filter_append, List.filter_eq_self.mpr, List.filter_eq_nil_iff.mpr, List.append_nil]
  · intro x hx
    obtain ⟨i, hi, rfl⟩ := List.mem_iff_getElem.mp hx
    rw [List.length_drop] at hi
    rw [List.getElem_drop, ← getD_idx (by omega), h2 (s + i) (by omega) (by omega)]
    decide
  · intro x hx
    obtain ⟨i, hi, rfl⟩ := List.mem_iff_getElem.mp hx
    rw [List.length_take] at hi
    rw [List.getElem_take, ← getD_idx (by omega)]
    exact h1 i (by omega)
section
variable {m w wide s : Nat} {HE KE XE PE : Nat → Nat} {M M₀ : Mat} {pc : Nat → Nat}
/-- the rows of a Hermite form that are not all 0 -/
theorem FInv.keep (I : FInv m w w HE KE XE PE M₀ w s pc M) : M.filter nz = M.take s := by
  have hl := I.rect.1
  have sm := I.sm
  refine filter_take (by omega) (fun i hi => ?_) (fun i h1 h2 => ?_)
  · have := (I.stair i hi).2.1
    exact nz_of (j := pc i) (by unfold ent at this; omega)
  · exact nz_not fun j hj => by
      rw [I.rect.row (by omega)] at hj
      exact I.low i h1 (by omega) j hj
theorem take_rect {n : Nat} (h : Rect m w M) (hn : n ≤ m) : Rect n w (M.take n) := ⟨by rw [List.length_take, h.1]; omega, fun r hr => h.2 r (List.mem_of_mem_take hr)⟩
theorem topInv {n : Nat} (I : FInv m (w + n) w HE KE XE PE M₀ w s pc M) : (topOf w M).filter nz = (topOf w M).take s := by
  have R := topOf_rect I.rect
  have hl := R.1
  have sm := I.sm
  refine filter_take (by omega) (fun i hi => ?_) (fun i h1 h2 => ?_)
  · have a := (I.stair i hi).2.1
    have b := (I.stair i hi).1
    refine nz_of (j := pc i) ?_
    have e := topOf_ent I.rect i (pc i) b
    unfold ent at e a
    rw [e]
    omega
  · exact nz_not fun j hj => by
      rw [R.row (by omega)] at hj
      have e := topOf_ent I.rect i j hj
      have := I.low i h1 (by omega) j hj
      unfold ent at e this
      rw [e, this]
end
/-- the Smith form of a staircase -/
theorem smith_start {s w : Nat} {B : Mat} {pc : Nat → Nat} (h4 : s ≤ 4) (hsw : s ≤ w) (hB : Rect s w B) (st : ∀ i, i < s → pc i < w ∧ 0 < ent B i (pc i) ∧ ∀ j, j < pc i → ent B i j = 0) (inc : ∀ i i', i < i' → i' < s → pc i < pc i')
    (mb : MB (2 ^ (f1 s).P) 0 s 0 w (ent B)) (fst : 0 < s → (ent B 0 (pc 0)).natAbs < 2 ^ 13) :
    MOk eM s w s 0 ⟨B, idm s, idm w⟩ (SS s w B (fun t => (s2 s t).H) (fun t => (s2 s t).K) (fun t => (s2 s t).X) s) := by
  refine smith_ok (snum2 h4) hsw s 0 ⟨B, idm s, idm w⟩ (Nat.zero_add s) ?_
  exact
    { wc := start_wc hB (stair_ind (pc := pc) (Nat.le_refl s) (fun i hi => (st i hi).1) (fun i hi => (st i hi).2) inc)
      mb := mb
      out := fun i j _ _ h _ => by omega
      dia := fun i hi => absurd hi (Nat.not_lt_zero i)
      lx := fun i j => by show (ent (idm s) i j).natAbs < 2 ^ 1; rw [idm_ent]; split <;> decide
      rx := fun i j => by show (ent (idm w) i j).natAbs < 2 ^ 1; rw [idm_ent]; split <;> decide
      sml := fun h => ⟨0, pc 0, ⟨Nat.le_refl _, h, Nat.zero_le _, (st 0 h).1⟩, by have := (st 0 h).2.1; show ent B 0 (pc 0) ≠ 0; omega, fst h⟩ }
theorem SmEnd.mono {m w kd xd kd' xd' : Nat} {B : Mat} {W : Wk} (E : SmEnd m w kd xd B W) (h1 : kd ≤ kd') (h2 : xd ≤ xd') : SmEnd m w kd' xd' B W :=
  { wc := E.wc, off := E.off, dia := fun i hi => ⟨(E.dia i hi).1, Nat.le_trans (E.dia i hi).2 (pow_le h1)⟩, lx := fun i j => Nat.lt_of_lt_of_le (E.lx i j) (pow_le h2), rx := fun i j => Nat.lt_of_lt_of_le (E.rx i j) (pow_le h2) }
theorem SS.end_ {s w : Nat} {B : Mat} {W : Wk} (h4 : s ≤ 4) (S : SS s w B (fun t => (s2 s t).H) (fun t => (s2 s t).K) (fun t => (s2 s t).X) s W) : SmEnd s w 2000 16321000 B W :=
  S.fin.mono (s2_K s h4 s (Nat.le_refl _)) (s2_X s h4 s (Nat.le_refl _))
/-- no rows at all -/
theorem smEnd0 (w kd xd : Nat) (hx : 0 < xd) : SmEnd 0 w kd xd [] ⟨[], [], idm w⟩ where
  wc := start_wc (m := 0) ⟨rfl, fun r hr => by cases hr⟩ fun y _ i hi => absurd hi (Nat.not_lt_zero i)
  off := fun i j hi => absurd hi (Nat.not_lt_zero i)
  dia := fun i hi => absurd hi (Nat.not_lt_zero i)
  lx := fun i j => by show (ent [] i j).natAbs < _; simp [ent]; exact Nat.pow_pos (by decide)
  rx := fun i j => by
    show (ent (idm w) i j).natAbs < _
    rw [idm_ent]
    have : 2 ^ 1 ≤ 2 ^ xd := pow_le hx
    split
    · show 1 < 2 ^ xd; omega
    · show 0 < 2 ^ xd; omega
theorem minors4 {m w : Nat} {M : Mat} (h4 : m ≤ 4 ∨ w ≤ 4) (h : ∀ i j, j < w → (ent M i j).natAbs ≤ 4860) : MB (2 ^ 57) 0 m 0 w (ent M) :=
  mb_of (A := 4860) (fun i j _ _ _ hj => h i j hj) fun n h1 h2 => by
    have : n = 0 ∨ n = 1 ∨ n = 2 ∨ n = 3 := by omega
    rcases this with rfl | rfl | rfl | rfl <;> decide
theorem augm_ent {m w : Nat} {A : Mat} (h : Rect m w A) {i j : Nat} (hi : i < m) : ent (augm m A) i j = if j < w then ent A i j else ent (idm m) i (j - w) := by
  unfold ent
  rw [augm_row h hi]
  simp only [List.getD_eq_getElem?_getD]
  have l : (A[i]?.getD []).length = w := by
    have := h.row hi
    rwa [List.getD_eq_getElem?_getD] at this
  by_cases q : j < w
  · rw [if_pos q, List.getElem?_append_left (by omega)]
  · rw [if_neg q, List.getElem?_append_right (by omega), l]
/-- what Equations makes -/
structure ERes (m w : Nat) (A : Mat) (top lef : Mat) (s : Nat) (L G R : Mat) : Prop where
  la : LA m w A top lef
  sm : s ≤ m
  sw : s ≤ w
  s4 : s ≤ 4
  hz : ∀ i, s ≤ i → i < m → ∀ j, j < w → ent top i j = 0
  lx : ∀ i j, (ent lef i j).natAbs < 2 ^ 52400
  ex : ∃ W, SmEnd s w 2000 16321000 (top.take s) W ∧ L = W.l ∧ G = W.g ∧ R = turnM w W.r
theorem eok {m w : Nat} {A : Mat} (hA : Rect m w A) (h4 : m ≤ 4 ∨ w ≤ 4) (bA : ∀ i j, (ent A i j).natAbs ≤ 4860) : EOk eM m w A (ERes m w A) := by
  have RA := augm_rect hA
  have sA : ∀ i j, j < w → (ent (augm m A) i j).natAbs ≤ 4860 := fun i j hj => by
    rcases Nat.lt_or_ge i m with hi | hi
    · rw [augm_ent hA hi, if_pos hj]; exact bA i j
    · rw [ent_out RA (.inl hi)]; decide
  have I0 := form_start (r := 4) (K0 := 57) (H0 := 13) RA (Nat.le_add_right w m) (minors4 h4 sA) (fun i j hj => Nat.lt_of_le_of_lt (sA i j hj) (by decide)) (fun i j hj => by
    rcases Nat.lt_or_ge i m with hi | hi
    · rw [augm_ent hA hi, if_neg (by omega), idm_ent]
      split <;> decide
    · rw [ent_out RA (.inl hi)]; decide)
  refine ⟨_, form_ok (fnum1 h4) w 0 0 _ _ (Nat.zero_add w) I0, fun s M hP R => ?_⟩
  obtain ⟨pc, I⟩ := hP
  have RT := topOf_rect R
  have ek := topInv I
  have sm := I.sm
  have sc := I.sc
  have s4 : s ≤ 4 := by omega
  have el : ((topOf w M).filter nz).length = s := by rw [ek, List.length_take, RT.1]; omega
  have la := la_of hA R I.ker
  have hz : ∀ i, s ≤ i → i < m → ∀ j, j < w → ent (topOf w M) i j = 0 := fun i h1 h2 j hj => by
    rw [topOf_ent R i j hj]
    exact I.low i h1 h2 j hj
  have lx : ∀ i j, (ent (lefOf w M) i j).natAbs < 2 ^ 52400 := fun i j => by
    rw [lefOf_ent R]
    exact Nat.lt_of_lt_of_le (I.aug i (w + j) (by omega)) (pow_le (f1_X s s4))
  rw [el]
  refine ⟨fun h0 => ?_, fun h0 => ⟨sc, ?_⟩⟩
  · subst h0
    refine ⟨la, sm, sc, s4, hz, lx, ⟨[], [], idm w⟩, smEnd0 w _ _ (by decide), rfl, rfl, ?_⟩
    exact ext_rect (idm_rect w) (turn_rect (idm_rect w).1) fun i j hi hj => by
      rw [turn_ent hi, idm_ent, idm_ent]
      by_cases e : i = j
      · rw [if_pos ⟨hi, e⟩, if_pos ⟨hj, e.symm⟩]
      · rw [if_neg (fun z => e z.2), if_neg (fun z => e z.2.symm)]
  · have RB : Rect s w ((topOf w M).take s) := take_rect RT sm
    have eB : ∀ i j, i < s → j < w → ent ((topOf w M).take s) i j = ent M i j := fun i j hi hj => by rw [ent_take hi, topOf_ent R i j hj]
    refine ⟨_, smith_start (pc := pc) s4 sc RB (fun i hi => ?_) I.incr ?_ fun h => ?_, fun W hW _ => ?_⟩
    · obtain ⟨a, b, c⟩ := I.stair i hi
      exact ⟨a, by rw [eB i _ hi a]; exact b, fun j hj => by rw [eB i j hi (by omega)]; exact c j hj⟩
    · exact I.done.congr fun i j _ h1 _ h2 => eB i j h1 h2
    · rw [eB 0 _ h (I.stair 0 h).1]
      exact I.first h
    · exact ⟨la, sm, sc, s4, hz, lx, W, SS.end_ s4 hW, rfl, rfl, rfl⟩
end K51

set_option maxHeartbeats 200000
/-! The kernel: KOk. -/
namespace K51
open K51W
abbrev vecOf (r : List Int) : Vec := fun j => (r.getD j 0 : Rat)
theorem rdot_symm {a b : List Int} (h : a.length = b.length) : rdot a (vecOf b) = rdot b (vecOf a) := by
  rw [rdot_vdot, rdot_vdot, vdot_comm, h]
theorem rdot_null {r : List Int} {v : Vec} (h : ∀ j, j < r.length → r.getD j 0 = 0) : rdot r v = 0 := by
  rw [rdot_vdot, vdot_comm]
  exact vdot_z2 _ fun j hj => by
    have := h j hj
    show ((r.getD j 0 : Int) : Rat) = 0
    rw [this]
    rfl
theorem getD_take {M : Mat} {s i : Nat} (h : i < s) : (M.take s).getD i [] = M.getD i [] := by
  simp only [List.getD_eq_getElem?_getD, List.getElem?_take, if_pos h]
theorem ker_take {m w s : Nat} {M : Mat} (R : Rect m w M) (hs : s ≤ m) (hz : ∀ i, s ≤ i → i < m → ∀ j, j < w → ent M i j = 0) (v : Vec) : Ker (M.take s) v ↔ Ker M v := by
  have lt : (M.take s).length = s := by rw [List.length_take, R.1]; omega
  constructor
  · intro h i hi
    rw [R.1] at hi
    rcases Nat.lt_or_ge i s with q | q
    · have := h i (by omega)
      rwa [getD_take q] at this
    · exact rdot_null fun j hj => hz i q hi j (by rw [R.row hi] at hj; exact hj)
  · intro h i hi
    rw [lt] at hi
    rw [getD_take hi]
    exact h i (by rw [R.1]; omega)
/-- a basis of the kernel of T -/
structure KRes (n w : Nat) (T B : Mat) : Prop where
  len : ∀ r ∈ B, r.length = w
  num : B.length ≤ 1000
  ker : ∀ r ∈ B, ∀ i, i < n → rdot (T.getD i []) (vecOf r) = 0
  det : ∀ j, j < w → (∀ r ∈ B, r.getD j 0 = 0) → ∀ v, Ker T v → v j = 0
theorem getD_drop {M : Mat} {s i : Nat} : (M.drop s).getD i [] = M.getD (s + i) [] := by
  simp only [List.getD_eq_getElem?_getD, List.getElem?_drop]
theorem facts6 : ∀ n, n ≤ 5 → 2 ^ n * fact (n + 1) ≤ 2 ^ (2 * (n + 1) * (n + 1)) := all_le (by decide +kernel)
theorem minors6 {r w X : Nat} {M : Mat} (hr : r ≤ 6) (h : ∀ i j, (ent M i j).natAbs < 2 ^ X) : MB (2 ^ (r * X + 2 * r * r)) 0 r 0 w (ent M) :=
  mb_of (A := 2 ^ X) (fun i j _ _ _ _ => Nat.le_of_lt (h i j)) fun n h1 h2 => by
    have hn : n + 1 ≤ r := by omega
    have e : 2 ^ n * (fact (n + 1) * (2 ^ X) ^ (n + 1)) = (2 ^ n * fact (n + 1)) * 2 ^ (X * (n + 1)) := by rw [← Nat.pow_mul, Nat.mul_assoc]
    rw [e, Nat.add_comm (r * X), Nat.pow_add]
    refine Nat.mul_le_mul (Nat.le_trans (facts6 n (by omega)) (pow_le ?_)) (pow_le ?_)
    · have := Nat.mul_le_mul hn hn
      rw [Nat.mul_assoc, Nat.mul_assoc]
      exact Nat.mul_le_mul_left _ this
    · rw [Nat.mul_comm]
      exact Nat.mul_le_mul_right _ hn
theorem kok {n w : Nat} {T : Mat} (R : Rect n w T) (hn : n ≤ 4) (hw : w ≤ 6) (bT : ∀ i j, (ent T i j).natAbs ≤ 4860) : KOk eM n w T (KRes n w T) := by
  have I0 := form_start (r := 4) (K0 := 57) (H0 := 13) R (Nat.le_refl w) (minors4 (.inl hn) fun i j _ => bT i j) (fun i j _ => Nat.lt_of_le_of_lt (bT i j) (by decide)) (fun i j hj => by rw [ent_out R (.inr hj)]; decide)
  refine ⟨_, form_ok (fnum1 (.inl hn)) w 0 0 _ _ (Nat.zero_add w) I0, fun s M hP RM => ?_⟩
  obtain ⟨pc, I⟩ := hP
  have ek := I.keep
  have sm := I.sm
  have sc := I.sc
  have s4 : s ≤ 4 := by omega
  have lk : (M.take s).length = s := by rw [List.length_take, RM.1]; omega
  have kt := fun v => (ker_take RM sm I.low v).trans (I.ker v)
  rw [ek, lk]
  refine ⟨fun h0 => ?_, fun h0 => ⟨sc, ?_⟩⟩
  · have s0 : s = 0 := by rw [← lk, h0]; rfl
    have all : ∀ v, Ker T v := fun v => (kt v).mp (by rw [h0]; intro i hi; exact absurd hi (Nat.not_lt_zero i))
    refine ⟨(idm_rect w).2, by rw [(idm_rect w).1]; omega, fun r _ i hi => all _ i (by rw [R.1]; exact hi), fun j hj h => ?_⟩
    have hm : (idm w).getD j [] ∈ idm w := by rw [getD_idx (by rw [(idm_rect w).1]; exact hj)]; exact List.getElem_mem _
    have := h _ hm
    have e : ((idm w).getD j []).getD j 0 = ent (idm w) j j := rfl
    rw [e, idm_ent, if_pos ⟨hj, rfl⟩] at this
    exact absurd this (by decide)
  · have s0 : 0 < s := by
      rcases Nat.eq_zero_or_pos s with q | q
      · exact absurd (by rw [q]; rfl) h0
      · exact q
    have RB : Rect s w (M.take s) := take_rect RM sm
    have eB : ∀ i j, i < s → ent (M.take s) i j = ent M i j := fun i j hi => ent_take hi j
    refine ⟨_, smith_start (pc := pc) s4 sc RB (fun i hi => ?_) I.incr ?_ fun h => ?_, fun W hW hr => ⟨fun hsw => ?_, fun hsw => ?_⟩⟩
    · obtain ⟨a, b, c⟩ := I.stair i hi
      exact ⟨a, by rw [eB i _ hi]; exact b, fun j hj => by rw [eB i j hi]; exact c j hj⟩
    · exact I.done.congr fun i j _ h1 _ h2 => eB i j h1
    · rw [eB 0 _ h]
      exact I.first h
    · -- the columns behind the rank
      have E := SS.end_ s4 hW
      have RW : Rect w w W.r := hr.r
      have RD : Rect (w - s) w (W.r.drop s) := ⟨by rw [List.length_drop, RW.1], fun r h => RW.2 r (List.mem_of_mem_drop h)⟩
      have eD : ∀ i j, ent (W.r.drop s) i j = ent W.r (s + i) j := fun i j => by unfold ent; rw [getD_drop]
      have sD : ∀ i j, (ent (W.r.drop s) i j).natAbs < 2 ^ (s2 s s).X := fun i j => by rw [eD]; exact hW.rx _ _
      have I1 := form_start (r := w - s) (K0 := (w - s) * (s2 s s).X + 2 * (w - s) * (w - s)) (H0 := (s2 s s).X) RD (Nat.le_refl w) (minors6 (by omega) sD) (fun i j _ => sD i j) (fun i j hj => by rw [ent_out RD (.inr hj)]; decide)
      refine ⟨_, form_ok (fnum3 (n := s) (r := w - s) s4 s0 (by omega)) w 0 0 _ _ (Nat.zero_add w) I1, fun s3 M3 hP3 R3 => ?_⟩
      obtain ⟨pc3, I3⟩ := hP3
      have e3 := I3.keep
      have l3 := I3.sm
      rw [e3]
      have kD : ∀ k, s + k < w → Ker T (rv W.r (s + k)) := fun k hk => (kt _).mp (ker_cols E RB (by omega) hk)
      refine ⟨fun r h => R3.2 r (List.mem_of_mem_take h), by rw [List.length_take, R3.1]; omega, fun r h a ha => ?_, fun j hj h v hv => ?_⟩
      · obtain ⟨i, hi, rfl⟩ := List.mem_iff_getElem.mp (List.mem_of_mem_take h)
        have la : (T.getD a []).length = w := R.row ha
        have lr : M3[i].length = w := R3.2 _ (List.getElem_mem hi)
        have k1 : Ker (W.r.drop s) (vecOf (T.getD a [])) := fun k hk => by
          rw [RD.1] at hk
          have lw : (W.r.getD (s + k) []).length = w := RW.row (by omega)
          rw [getD_drop, rdot_symm (by rw [lw, la])]
          exact kD k (by omega) a (by rw [R.1]; exact ha)
        have k2 := (I3.ker _).mpr k1 i hi
        rw [getD_idx hi] at k2
        rw [rdot_symm (by rw [la, lr])]
        exact k2
      · have k1 : Ker M3 (fun i => if i = j then 1 else 0) := fun i hi => by
          rw [rdot_one]
          rw [R3.1] at hi
          rcases Nat.lt_or_ge i s3 with q | q
          · have hm : M3.getD i [] ∈ M3.take s3 := by
              rw [← getD_take q, getD_idx (by rw [List.length_take, R3.1]; omega)]
              exact List.getElem_mem _
            rw [h _ hm]
            rfl
          · have := I3.low i q hi j hj
            unfold ent at this
            rw [this]
            rfl
        have k2 := (I3.ker _).mp k1
        refine ker_span E sc RB ((kt v).mpr hv) hj fun k h1 h2 => ?_
        have := k2 (k - s) (by rw [RD.1]; omega)
        rw [rdot_one, getD_drop] at this
        have e : s + (k - s) = k := by omega
        rw [e] at this
        have : ((ent W.r k j : Int) : Rat) = ((0 : Int) : Rat) := this
        exact Rat.intCast_inj.mp this
    · have E := SS.end_ s4 hW
      exact ⟨(fun r h => nomatch h), Nat.zero_le _, (fun r h => nomatch h), fun j hj _ v hv => ker_span E sc RB ((kt v).mpr hv) hj fun k h1 h2 => by omega⟩
end K51

set_option maxHeartbeats 200000
/-! Answers: the sizes of all fractions on the way; ROk. -/
namespace K51
open K51W
/-! ### sizes of fractions -/
def Sz (a d : Nat) (q : Rat) : Prop := q.num.natAbs < 2 ^ a ∧ q.den < 2 ^ d
theorem Sz.mono {a d a' d' : Nat} {q : Rat} (h : Sz a d q) (h1 : a ≤ a') (h2 : d ≤ d') : Sz a' d' q := ⟨Nat.lt_of_lt_of_le h.1 (pow_le h1), Nat.lt_of_lt_of_le h.2 (pow_le h2)⟩
theorem fdiv_le {x g : Int} (h : g ∣ x) : (x.fdiv g).natAbs ≤ x.natAbs := by
  by_cases g0 : g = 0
  · subst g0
    simp
  · obtain ⟨c, rfl⟩ := h
    rw [Int.mul_fdiv_cancel_left _ g0, Int.natAbs_mul]
    exact Nat.le_mul_of_pos_left _ (by omega)
theorem divInt_le (t : Int) {b : Int} (hb : b ≠ 0) : (Rat.divInt t b).num.natAbs ≤ t.natAbs ∧ (Rat.divInt t b).den ≤ b.natAbs := by
  obtain ⟨_, e1, e2⟩ := lowest_eq t hb
  have gt : ((Int.gcd t b : Nat) : Int) ∣ t := Int.gcd_dvd_left ..
  have gb : ((Int.gcd t b : Nat) : Int) ∣ b := Int.gcd_dvd_right ..
  have d1 : (if b < 0 then -((Int.gcd t b : Nat) : Int) else ((Int.gcd t b : Nat) : Int)) ∣ t := by
    split
    · exact Int.neg_dvd.mpr gt
    · exact gt
  have d2 : (if b < 0 then -((Int.gcd t b : Nat) : Int) else ((Int.gcd t b : Nat) : Int)) ∣ b := by
    split
    · exact Int.neg_dvd.mpr gb
    · exact gb
  refine ⟨by rw [← e1]; exact fdiv_le d1, ?_⟩
  have := fdiv_le d2
  rw [e2] at this
  exact this
theorem Sz.of_div {t b : Int} {a d : Nat} (hb : b ≠ 0) (h1 : t.natAbs < 2 ^ a) (h2 : b.natAbs < 2 ^ d) : Sz a d (Rat.divInt t b) :=
  ⟨Nat.lt_of_le_of_lt (divInt_le t hb).1 h1, Nat.lt_of_le_of_lt (divInt_le t hb).2 h2⟩
theorem Sz.int {x : Int} {a : Nat} (h : x.natAbs < 2 ^ a) : Sz a 1 (x : Rat) := ⟨h, by show 1 < 2 ^ 1; decide⟩
theorem pow_mul_lt {x y a b : Nat} (h1 : x < 2 ^ a) (h2 : y < 2 ^ b) : x * y < 2 ^ (a + b) := by
  rw [Nat.pow_add]
  exact Nat.mul_lt_mul'' h1 h2
theorem Sz.mul {a d a' d' : Nat} {q r : Rat} (h : Sz a d q) (h' : Sz a' d' r) : Sz (a + a') (d + d') (q * r) := by
  rw [← times_eq]
  refine Sz.of_div (Int.mul_ne_zero (den_ne q) (den_ne r)) ?_ ?_
  · rw [Int.natAbs_mul]; exact pow_mul_lt h.1 h'.1
  · rw [Int.natAbs_mul]; exact pow_mul_lt h.2 h'.2
theorem Sz.add {a d a' d' b : Nat} {q r : Rat} (h : Sz a d q) (h' : Sz a' d' r) (h1 : a + d' ≤ b) (h2 : a' + d ≤ b) : Sz (b + 1) (d + d') (q + r) := by
  rw [← plus_eq]
  refine Sz.of_div (Int.mul_ne_zero (den_ne q) (den_ne r)) ?_ ?_
  · have a1 : (q.num * (r.den : Int)).natAbs < 2 ^ b := by
      rw [Int.natAbs_mul]
      exact Nat.lt_of_lt_of_le (pow_mul_lt h.1 h'.2) (pow_le h1)
    have a2 : (r.num * (q.den : Int)).natAbs < 2 ^ b := by
      rw [Int.natAbs_mul]
      exact Nat.lt_of_lt_of_le (pow_mul_lt h'.1 h.2) (pow_le h2)
    have a3 := Int.natAbs_add_le (q.num * (r.den : Int)) (r.num * (q.den : Int))
    rw [Nat.pow_succ]
    omega
  · rw [Int.natAbs_mul]; exact pow_mul_lt h.2 h'.2
theorem Sz.over {a d k : Nat} {q : Rat} {g : Int} (h : Sz a d q) (g0 : g ≠ 0) (hg : g.natAbs ≤ 2 ^ k) : Sz a (d + (k + 1)) (q / (g : Rat)) := by
  have hr : (g : Rat) ≠ 0 := int_ne g0
  obtain ⟨n0, e⟩ := over_eq q (g : Rat) hr
  rw [← e]
  have e1 : ((g : Rat)).num = g := rfl
  have e2 : ((g : Rat)).den = 1 := rfl
  rw [e1] at n0 ⊢
  rw [e2]
  refine Sz.of_div n0 ?_ ?_
  · rw [show (((1 : Nat) : Int)) = 1 from rfl, Int.mul_one]; exact h.1
  · rw [Int.natAbs_mul]
    refine pow_mul_lt h.2 (Nat.lt_of_le_of_lt hg (pow_lt (Nat.lt_succ_self k)))
theorem dsum_vdot (rs ss : List Rat) : ∀ n, dsum rs ss n = vdot n (fun i => rs.getD i 0) (fun i => ss.getD i 0)
  | 0 => rfl
  | n + 1 => by
    rw [dsum, dsum_vdot rs ss n]
    rfl
section
variable {rs ss : List Rat} {a d a' d' n : Nat}
theorem dsum_sz (h1 : ∀ i, i < n → Sz a d (rs.getD i 0)) (h2 : ∀ i, i < n → Sz a' d' (ss.getD i 0)) (d1 : 1 ≤ d) : ∀ i, i ≤ n → Sz (a + a' + i * (d + d' + 1)) (i * (d + d') + 1) (dsum rs ss i)
  | 0, _ => by
    show Sz _ _ 0
    refine ⟨by show 0 < _; exact Nat.pow_pos (by decide), ?_⟩
    rw [Nat.zero_mul]
    show 1 < 2 ^ 1
    decide
  | i + 1, hi => by
    have ih := dsum_sz h1 h2 d1 i (by omega)
    have t := (h1 i (by omega)).mul (h2 i (by omega))
    have e1 : (i + 1) * (d + d' + 1) = i * (d + d' + 1) + (d + d' + 1) := Nat.succ_mul ..
    have e2 : (i + 1) * (d + d') = i * (d + d') + (d + d') := Nat.succ_mul ..
    have e3 : i * (d + d' + 1) = i * (d + d') + i := Nat.mul_succ ..
    exact (ih.add t (b := a + a' + i * (d + d' + 1) + (d + d')) (by omega) (by omega)).mono (by omega) (by omega)
theorem dotFit (hl : rs.length = n) (h1 : ∀ i, i < n → Sz a d (rs.getD i 0)) (h2 : ∀ i, i < n → Sz a' d' (ss.getD i 0)) (d1 : 1 ≤ d) (hb : a + a' + (n + 1) * (d + d' + 1) ≤ 134000000) : DotFit rs ss where
  t1 := fun i hi => by
    rw [hl] at hi
    have e : (n + 1) * (d + d' + 1) = n * (d + d' + 1) + (d + d' + 1) := Nat.succ_mul ..
    exact ⟨.inr (.inr ⟨a, a', (h1 i hi).1, (h2 i hi).1, by omega⟩), .inr (.inr ⟨d, d', (h1 i hi).2, (h2 i hi).2, by omega⟩)⟩
  p1 := fun i hi => by
    rw [hl] at hi
    have p := dsum_sz h1 h2 d1 i (by omega)
    have t := (h1 i hi).mul (h2 i hi)
    have e : (n + 1) * (d + d' + 1) = n * (d + d' + 1) + (d + d' + 1) := Nat.succ_mul ..
    have e3 : i * (d + d' + 1) = i * (d + d') + i := Nat.mul_succ ..
    have e4 : i * (d + d' + 1) ≤ n * (d + d' + 1) := Nat.mul_le_mul_right _ (by omega)
    exact ⟨.inr (.inr ⟨_, _, p.1, t.2, by omega⟩), .inr (.inr ⟨_, _, t.1, p.2, by omega⟩), .inr (.inr ⟨_, _, p.2, t.2, by omega⟩)⟩
end
theorem cbot_lt {d : Nat} : ∀ (rs : List Rat) (b c : Nat), (∀ r ∈ rs, r.den < 2 ^ d) → b < 2 ^ c → rs.foldl (fun b r => b * r.den) b < 2 ^ (c + d * rs.length)
  | [], b, c, _, h => by simpa using h
  | r :: rs, b, c, hr, h => by
    have := cbot_lt rs (b * r.den) (c + d) (fun x hx => hr x (List.mem_cons_of_mem _ hx)) (pow_mul_lt h (hr r (List.mem_cons_self ..)))
    rw [List.foldl_cons, List.length_cons, Nat.mul_succ]
    refine Nat.lt_of_lt_of_le this (pow_le (by omega))
theorem intsFit {rs : List Rat} {a d : Nat} (h : ∀ r ∈ rs, Sz a d r) (hl : rs.length ≤ 1000) (hb : a + d * (rs.length + 1) + 1 ≤ 134000000) : IntsFit rs where
  len := hl
  run := fun i r hr => by
    have c1 : cbot (rs.take i) < 2 ^ (1 + d * (rs.take i).length) := Nat.lt_of_le_of_lt (cbot_le_aux _ 1) (cbot_lt _ 1 1 (fun x hx => (h x (List.mem_of_mem_take hx)).2) (by decide))
    refine .inr (.inr ⟨1 + d * rs.length, d, ?_, (h r (List.mem_of_getElem? hr)).2, ?_⟩)
    · refine Nat.lt_of_lt_of_le c1 (pow_le ?_)
      have : d * (rs.take i).length ≤ d * rs.length := Nat.mul_le_mul_left _ (by rw [List.length_take]; omega)
      omega
    · rw [Nat.mul_succ] at hb; omega
  all := fun r hr => by
    have c1 : cbot rs < 2 ^ (1 + d * rs.length) := Nat.lt_of_le_of_lt (cbot_le_aux _ 1) (cbot_lt _ 1 1 (fun x hx => (h x hx).2) (by decide))
    refine .inr (.inr ⟨a, 1 + d * rs.length, (h r hr).1, ?_, ?_⟩)
    · exact Nat.lt_of_le_of_lt (Nat.div_le_self _ _) c1
    · rw [Nat.mul_succ] at hb; omega
/-! ### entries of lists -/
theorem rr_getD (r : List Int) (i : Nat) : (rr r).getD i 0 = ((r.getD i 0 : Int) : Rat) := by
  simp only [List.getD_eq_getElem?_getD, List.getElem?_map]
  cases r[i]? <;> rfl
theorem getD_mapr {n i : Nat} {f : Nat → Rat} (h : i < n) : ((List.range n).map f).getD i 0 = f i := by
  simp [List.getD_eq_getElem?_getD, h]
theorem getD_takeR {l : List Rat} {s i : Nat} (h : i < s) : (l.take s).getD i 0 = l.getD i 0 := by
  simp only [List.getD_eq_getElem?_getD, List.getElem?_take, if_pos h]
theorem getD_takeI {l : List Int} {s i : Nat} (h : i < s) : (l.take s).getD i 0 = l.getD i 0 := by
  simp only [List.getD_eq_getElem?_getD, List.getElem?_take, if_pos h]
theorem mem_getD {l : List Int} {x : Int} (h : x ∈ l) : ∃ i, i < l.length ∧ l.getD i 0 = x := by
  obtain ⟨i, hi, rfl⟩ := List.mem_iff_getElem.mp h
  exact ⟨i, hi, by rw [List.getD_eq_getElem?_getD, List.getElem?_eq_getElem hi]; rfl⟩
theorem getD_small {l : List Int} {a : Nat} (h : ∀ x ∈ l, x.natAbs < 2 ^ a) (i : Nat) : (l.getD i 0).natAbs < 2 ^ a := by
  rcases Nat.lt_or_ge i l.length with hi | hi
  · rw [List.getD_eq_getElem?_getD, List.getElem?_eq_getElem hi]
    exact h _ (List.getElem_mem hi)
  · rw [List.getD_eq_getElem?_getD, List.getElem?_eq_none hi]
    exact Nat.pow_pos (by decide)
abbrev vecR (r : List Rat) : Vec := fun j => r.getD j 0
/-- an answer -/
structure Ysol (m w : Nat) (A : Mat) (b : List Int) (sp : List Rat) : Prop where
  len : sp.length = w
  eq : ∀ i, i < m → rdot (A.getD i []) (vecR sp) = (b.getD i 0 : Rat)
  sz : ∀ q ∈ sp, Sz 32703000 8300 q
/-- weights that show that there is none -/
structure Nwt (m w : Nat) (A : Mat) (b wt : List Int) : Prop where
  len : wt.length = m
  ker : ∀ x : Vec, rdot wt (bv A x) = 0
  mov : rdot wt (vecOf b) ≠ 0
  sz : ∀ x ∈ wt, x.natAbs < 2 ^ 52400
theorem ROk.mono {e m w : Nat} {A : Mat} {b : List Int} {Y Y' : List Rat → Prop} {N N' : List Int → Prop} (h : ROk e m w A b Y N) (hy : ∀ s, Y s → Y' s) (hn : ∀ x, N x → N' x) : ROk e m w A b Y' N' := by
  obtain ⟨Res, h1, h2⟩ := h
  refine ⟨Res, h1, fun top lef s L G R hr => ?_⟩
  obtain ⟨a, b, c⟩ := h2 top lef s L G R hr
  exact ⟨a, fun z => hy _ (b z), fun k k1 k2 k3 => hn _ (c k k1 k2 k3)⟩
theorem rok {m w : Nat} {A : Mat} {b : List Int} (hA : Rect m w A) (m6 : m ≤ 6) (w6 : w ≤ 6) (h4 : m ≤ 4 ∨ w ≤ 4) (bA : ∀ i j, (ent A i j).natAbs ≤ 4860) (lb : b.length = m) (bb : ∀ x ∈ b, x.natAbs < 2 ^ 17) : ROk eM m w A b (Ysol m w A b) (Nwt m w A b) := by
  refine ⟨_, eok hA h4 bA, fun top lef s L G R hr => ?_⟩
  obtain ⟨la, sm, sw, s4, hz, lx, W, E, rfl, rfl, rfl⟩ := hr
  have rl := la.rl
  have rL := E.wc.rl
  have rG := E.wc.rg
  have rRr := E.wc.rr
  have rR : Rect w w (turnM w W.r) := turn_rect rRr.1
  have szb : ∀ i, Sz 17 1 ((rr b).getD i 0) := fun i => by rw [rr_getD]; exact .int (getD_small bb i)
  have szl : ∀ k i, Sz 52400 1 ((rr (lef.getD k [])).getD i 0) := fun k i => by rw [rr_getD]; exact .int (lx k i)
  have sides : ∀ i, i < m → (sidesOf lef m (rr b)).getD i 0 = dsum (rr (lef.getD i [])) (rr b) m := fun i hi => getD_mapr hi
  have szs : ∀ i, i < m → Sz 52435 13 ((sidesOf lef m (rr b)).getD i 0) := fun i hi => by
    rw [sides i hi]
    exact (dsum_sz (n := m) (fun j _ => szl i j) (fun j _ => szb j) (Nat.le_refl _) m (Nat.le_refl _)).mono (by omega) (by omega)
  have szt : ∀ i, i < s → Sz 52435 13 (((sidesOf lef m (rr b)).take s).getD i 0) := fun i hi => by rw [getD_takeR hi]; exact szs i (by omega)
  have szL : ∀ k i, Sz 16321000 1 ((rr (W.l.getD k [])).getD i 0) := fun k i => by rw [rr_getD]; exact .int (E.lx k i)
  have szv0 : ∀ k, k < s → Sz 16373500 57 (dsum (rr (W.l.getD k [])) ((sidesOf lef m (rr b)).take s) s) := fun k hk =>
    (dsum_sz (n := s) (fun j _ => szL k j) (fun j hj => szt j hj) (Nat.le_refl _) s (Nat.le_refl _)).mono (by omega) (by omega)
  have vals : ∀ k, k < s → (valsOf W.l W.g s (sidesOf lef m (rr b))).getD k 0 = dsum (rr (W.l.getD k [])) ((sidesOf lef m (rr b)).take s) s / ((ent W.g k k : Int) : Rat) := fun k hk => getD_mapr hk
  have szv : ∀ k, k < s → Sz 16373500 2058 ((valsOf W.l W.g s (sidesOf lef m (rr b))).getD k 0) := fun k hk => by
    rw [vals k hk]
    exact ((szv0 k hk).over (E.dia k hk).1 (E.dia k hk).2).mono (Nat.le_refl _) (by decide)
  have eR : ∀ j i, j < w → i < s → (rr (((turnM w W.r).getD j []).take s)).getD i 0 = (ent W.r i j : Rat) := fun j i hj hi => by
    rw [rr_getD, getD_takeI hi]
    have : ((turnM w W.r).getD j []).getD i 0 = ent (turnM w W.r) j i := rfl
    rw [this, turn_ent hj]
  have szR : ∀ j, j < w → ∀ i, i < s → Sz 16321000 1 ((rr (((turnM w W.r).getD j []).take s)).getD i 0) := fun j hj i hi => by rw [eR j i hj hi]; exact .int (E.rx i j)
  have lR : ∀ j, j < w → (rr (((turnM w W.r).getD j []).take s)).length = s := fun j hj => by rw [List.length_map, List.length_take, rR.row hj]; omega
  refine ⟨⟨rl, rL, rG, rR, sm, sw, by omega, by omega, by rw [List.length_map, lb], fun i hi => ?_, fun _ k hk => ⟨?_, (E.dia k hk).1, ?_⟩, fun _ j hj => ?_⟩, fun hs => ⟨?_, fun i hi => ?_, fun q hq => ?_⟩, fun k h1 h2 h3 => ⟨rl.row h2, fun x => ?_, ?_, fun x hx => ?_⟩⟩
  · exact dotFit (n := m) (by rw [List.length_map, rl.row hi]) (fun j _ => szl i j) (fun j _ => szb j) (Nat.le_refl _) (by omega)
  · exact dotFit (n := s) (by rw [List.length_map, rL.row hk]) (fun j _ => szL k j) (fun j hj => szt j hj) (Nat.le_refl _) (by omega)
  · refine .inl ?_
    have := (szv0 k hk).2
    show (dsum (rr (W.l.getD k [])) ((sidesOf lef m (rr b)).take s) s).den < 2 ^ 64
    exact Nat.lt_trans this (pow_lt (by decide))
  · exact dotFit (n := s) (lR j hj) (fun i hi => szR j hj i hi) (fun i hi => szv i hi) (Nat.le_refl _) (by omega)
  · unfold spotOf
    rw [List.length_map, List.length_range]
  · -- the answer
    have sb : ∀ i, i < m → (sidesOf lef m (rr b)).getD i 0 = rdot (lef.getD i []) (vecOf b) := fun i hi => by
      rw [sides i hi, dsum_vdot, rdot_vdot, rl.row hi]
      exact vdot_congr m (fun j _ => rr_getD _ j) fun j _ => rr_getD _ j
    have key := answer (A := A) (top := top) (lef := lef) (W := W) (b := vecOf b) la hA sm sw hz (fun k k1 k2 => by rw [← sb k k2]; exact hs k k1 k2) (take_rect la.rt sm) E (fun k => (valsOf W.l W.g s (sidesOf lef m (rr b))).getD k 0) (fun k hk => by
      show (valsOf W.l W.g s (sidesOf lef m (rr b))).getD k 0 * ((ent W.g k k : Int) : Rat) = _
      rw [vals k hk]
      have g0 := int_ne (E.dia k hk).1
      have e : dsum (rr (W.l.getD k [])) ((sidesOf lef m (rr b)).take s) s = rdot (W.l.getD k []) (fun i => rdot (lef.getD i []) (vecOf b)) := by
        rw [dsum_vdot, rdot_vdot, rL.row hk]
        exact vdot_congr s (fun j _ => rr_getD _ j) fun j hj => by rw [getD_takeR hj, sb j (by omega)]
      rw [← e]
      grind) i hi
    refine Eq.trans ?_ key
    refine rdot_congr _ _ _ fun j hj => ?_
    rw [hA.row hi] at hj
    show (spotOf (turnM w W.r) s w (valsOf W.l W.g s (sidesOf lef m (rr b)))).getD j 0 = _
    unfold spotOf
    rw [getD_mapr hj, dsum_vdot, vdot_comm]
    exact vdot_congr s (fun _ _ => rfl) fun i hi => eR j i hj hi
  · unfold spotOf at hq
    obtain ⟨j, hj, rfl⟩ := List.mem_map.mp hq
    have hj := List.mem_range.mp hj
    exact (dsum_sz (n := s) (fun i hi => szR j hj i hi) (fun i hi => szv i hi) (Nat.le_refl _) s (Nat.le_refl _)).mono (by omega) (by omega)
  · exact no_answer la h2 fun j hj => hz k h1 h2 j hj
  · intro z
    apply h3
    refine Eq.trans ?_ z
    rw [sides k h2, dsum_vdot, rdot_vdot, rl.row h2]
    exact vdot_congr m (fun j _ => rr_getD _ j) fun j _ => rr_getD _ j
  · obtain ⟨i, _, rfl⟩ := mem_getD hx
    exact lx k i
end K51

set_option maxHeartbeats 200000
/-! The law, with no program in sight. -/
namespace K51W
open K51
theorem inner_rdot : ∀ (r c : List Int), r.length = c.length → ((inner r c : Int) : Rat) = rdot r (vecOf c)
  | [], [], _ => rfl
  | [], _ :: _, h => by simp at h
  | _ :: _, [], h => by simp at h
  | x :: r, y :: c, h => by
    have ih := inner_rdot r c (by simpa using h)
    have e : inner (x :: r) (y :: c) = x * y + inner r c := rfl
    rw [e, Rat.intCast_add, Rat.intCast_mul, ih]
    rfl
/-! ### Euclid's laps -/
theorem EndsIn.more : ∀ {n n' x y : Nat}, EndsIn n x y → n ≤ n' → EndsIn n' x y
  | 0, 0, _, _, h, _ => h
  | 0, _ + 1, _, _, h, _ => .inl h
  | _ + 1, 0, _, _, _, h => by omega
  | n + 1, n' + 1, x, y, h, hn => by
    rcases h with h | h
    · exact .inl h
    · exact .inr (EndsIn.more h (by omega))
theorem EndsIn.bits : ∀ (k x y : Nat), y < 2 ^ k → EndsIn (2 * k) x y
  | 0, x, y, h => by
    have : y = 0 := by simpa using h
    exact this
  | k + 1, x, y, h => by
    show EndsIn (2 * k + 1 + 1) x y
    by_cases y0 : y = 0
    · exact .inl y0
    refine .inr ?_
    by_cases r0 : x % y = 0
    · exact .inl r0
    refine .inr (EndsIn.bits k _ _ ?_)
    have h1 := Nat.mod_lt x (Nat.pos_of_ne_zero y0)
    have h2 := Nat.mod_lt y (Nat.pos_of_ne_zero r0)
    have h3 : y % (x % y) ≤ y - x % y := by
      have := Nat.mod_add_div y (x % y)
      have d1 : 1 ≤ y / (x % y) := (Nat.one_le_div_iff (Nat.pos_of_ne_zero r0)).mpr (by omega)
      have := Nat.mul_le_mul_left (x % y) d1
      omega
    rw [Nat.pow_succ] at h
    omega
theorem EndsIn.scale (g : Nat) : ∀ {n x y : Nat}, EndsIn n x y → EndsIn n (g * x) (g * y)
  | 0, x, y, h => by
    have : y = 0 := h
    show g * y = 0
    rw [this, Nat.mul_zero]
  | n + 1, x, y, h => by
    rcases h with h | h
    · exact .inl (by rw [h, Nat.mul_zero])
    · refine .inr ?_
      rw [Nat.mul_mod_mul_left]
      exact EndsIn.scale g h
/-! ### columns and rows -/
section
variable {m w : Nat} {A : Mat}
theorem turn_row (hA : Rect m w A) {i : Nat} (hi : i < w) (v : Vec) : rdot ((turnM w A).getD i []) v = vdot m v (fun k => (ent A k i : Rat)) := by
  rw [rdot_vdot, (turn_rect hA.1).row hi, vdot_comm]
  refine vdot_congr m (fun _ _ => rfl) fun k _ => ?_
  have : ((turnM w A).getD i []).getD k 0 = ent (turnM w A) i k := rfl
  rw [this, turn_ent hi]
theorem bv_unit (hA : Rect m w A) (j k : Nat) : bv A (fun i => if i = j then 1 else 0) k = (ent A k j : Rat) := by
  unfold bv
  rw [rdot_one]
  rfl
end
theorem rat_int {x : Int} (h : ((x : Int) : Rat) = 0) : x = 0 := Rat.intCast_inj.mp (show ((x : Int) : Rat) = ((0 : Int) : Rat) from h)
/-- a scaled row of fractions against a row of integers -/
theorem inner_scale {rs : List Rat} {r : List Int} {c : Rat} {n : Nat} (hl : rs.length = n) (hr : r.length = n) (h : ∀ (i : Nat) (q : Rat), rs[i]? = some q → ∃ x : Int, (intsOf rs)[i]? = some x ∧ (x : Rat) = c * q) :
    ((inner (intsOf rs) r : Int) : Rat) = c * vdot n (vecR rs) (fun i => (r.getD i 0 : Rat)) := by
  have li : (intsOf rs).length = n := by rw [(intsOf_scale rs).1, hl]
  rw [inner_rdot _ _ (by rw [li, hr]), rdot_vdot, li, vdot_comm, vdot_comm n (vecR rs), ← vdot_mul]
  refine vdot_congr n (fun _ _ => rfl) fun j hj => ?_
  obtain ⟨x, h1, h2⟩ := h j rs[j] (List.getElem?_eq_getElem (by omega))
  show (((intsOf rs).getD j 0 : Int) : Rat) = c * rs.getD j 0
  rw [List.getD_eq_getElem?_getD, h1, List.getD_eq_getElem?_getD, List.getElem?_eq_getElem (by omega)]
  exact h2
theorem vec_unitv {m j k : Nat} (hk : k < m) : vecOf (unitv m j) k = if k = j then 1 else 0 := by
  show (((unitv m j).getD k 0 : Int) : Rat) = _
  unfold unitv
  rw [List.getD_eq_getElem?_getD, List.getElem?_map, List.getElem?_range hk]
  show (((if k = j then 1 else 0 : Int)) : Rat) = _
  split <;> rfl
theorem ent_small {m w a : Nat} {A : Mat} (hA : Rect m w A) (h : ∀ r ∈ A, ∀ x ∈ r, x.natAbs ≤ a) (i j : Nat) : (ent A i j).natAbs ≤ a := by
  rcases Nat.lt_or_ge i m with hi | hi
  case inr => rw [ent_out hA (.inl hi)]; exact Nat.zero_le _
  rcases Nat.lt_or_ge j w with hj | hj
  case inr => rw [ent_out hA (.inr hj)]; exact Nat.zero_le _
  have li : i < A.length := by rw [hA.1]; exact hi
  have lj : j < (A.getD i []).length := by rw [hA.row hi]; exact hj
  unfold ent
  rw [List.getD_eq_getElem?_getD (l := A.getD i []), List.getElem?_eq_getElem lj]
  refine h (A.getD i []) ?_ _ (List.getElem_mem lj)
  rw [getD_idx li]
  exact List.getElem_mem li
theorem plain_law : PlainLaw := by
  intro m w A b m0 m6 w0 w4 hA bA lb bb
  have rT : Rect w m (turnM w A) := turn_rect hA.1
  have eA : ∀ i j, (ent A i j).natAbs ≤ 4860 := ent_small hA bA
  have eT : ∀ i j, (ent (turnM w A) i j).natAbs ≤ 4860 := fun i j => by
    rcases Nat.lt_or_ge i w with hi | hi
    · rw [turn_ent hi]; exact eA _ _
    · rw [ent_out rT (.inl hi)]; exact Nat.zero_le _
  have rAb : Rect (m + 1) w (A ++ [b]) := ⟨by rw [List.length_append, hA.1]; rfl, fun r hr => by
    rcases List.mem_append.mp hr with hr | hr
    · exact hA.2 r hr
    · rw [List.mem_singleton.mp hr]; exact lb⟩
  have bb17 : ∀ x ∈ b, x.natAbs < 2 ^ 17 := fun x hx => Nat.lt_of_le_of_lt (bb x hx) (by decide)
  have sA : BSz 17 A := fun i j => Nat.lt_of_le_of_lt (eA i j) (by decide)
  have sAb : BSz 17 (A ++ [b]) := fun i j => by
    rw [ent_snoc]
    split
    · exact sA i j
    · split
      · exact getD_small bb17 j
      · exact Nat.pow_pos (by decide)
  have k1 := run_rk hA sA
  have k2 := run_rk rAb sAb
  refine ⟨run_ok hA w4 sA, run_ok rAb w4 sAb, eM, fun c => (runB A w).place ≠ (runB (A ++ [b]) w).place ∧ c.length = w ∧ (∀ k, k < m → inner c (A.getD k []) = 0) ∧ inner c b ≠ 0,
    fun ls => (runB A w).place = (runB (A ++ [b]) w).place ∧ ∀ (j : Nat) (l : Ltr), ls[j]? = some l → LetOk A b m w j l, Nat.le_refl _, ?_, fun c h => h, fun ls h => h⟩
  refine ⟨Ysol w m (turnM w A) b, Nwt w m (turnM w A) b, rok rT (by omega) m6 (.inl w4) eT lb bb17, fun wt hw => ⟨?_, ?_⟩, fun sp hsp => ⟨hsp.len, KRes w m (turnM w A), kok rT w4 m6 eT, fun B hB => ⟨hB.len, hB.num, fun j s => Ysol m w A (unitv m j) s, fun j hj hBj => ⟨?_, fun s hs => ?_⟩, fun ls hls hg => ⟨?_, fun j l hl => ?_⟩⟩⟩⟩
  · exact intsFit (a := 52400) (d := 1) (fun q hq => by
      obtain ⟨x, hx, rfl⟩ := List.mem_map.mp hq
      exact .int (hw.sz x hx)) (by rw [List.length_map, hw.len]; omega) (by rw [List.length_map, hw.len]; omega)
  · -- no answer: the weights are the change
    obtain ⟨li, c, c0, hc⟩ := intsOf_scale (rr wt)
    have lw : (rr wt).length = w := by rw [List.length_map, hw.len]
    have dotk : ∀ k, vdot w (vecR (rr wt)) (fun i => ((A.getD k []).getD i 0 : Rat)) = rdot wt (bv (turnM w A) (fun i => if i = k then 1 else 0)) := fun k => by
      rw [rdot_vdot, hw.len]
      refine vdot_congr w (fun i _ => rr_getD wt i) fun i hi => ?_
      rw [bv_unit rT, turn_ent hi]
      rfl
    refine ⟨rank_more k1 k2 (c := vecR (rr wt)) (fun i _ => ?_) ?_, by rw [li, lw], fun k hk => ?_, fun z => ?_⟩
    · have := dotk i
      rw [hw.ker] at this
      exact this
    · have e : vdot w (vecR (rr wt)) (fun j => (b.getD j 0 : Rat)) = rdot wt (vecOf b) := by
        rw [rdot_vdot, hw.len]
        exact vdot_congr w (fun i _ => rr_getD wt i) fun _ _ => rfl
      rw [e]
      exact hw.mov
    · refine rat_int ?_
      rw [inner_scale lw (hA.row hk) hc, dotk, hw.ker]
      grind
    · have e := inner_scale lw lb hc
      rw [z] at e
      have e2 : vdot w (vecR (rr wt)) (fun j => (b.getD j 0 : Rat)) = rdot wt (vecOf b) := by
        rw [rdot_vdot, hw.len]
        exact vdot_congr w (fun i _ => rr_getD wt i) fun _ _ => rfl
      rw [e2] at e
      have := hw.mov
      have e : (0 : Rat) = c * rdot wt (vecOf b) := e
      grind
  · -- a change for a letter that is held
    refine K51.ROk.mono (rok (b := unitv m j) hA m6 (by omega) (.inr w4) eA (by simp [unitv]) (fun x hx => ?_)) (fun s h => h) fun wt hw => ?_
    · obtain ⟨k, _, rfl⟩ := List.mem_map.mp hx
      split <;> decide
    · have hk : Ker (turnM w A) (vecOf wt) := fun i hi => by
        rw [rT.1] at hi
        rw [turn_row hA hi]
        have := hw.ker (fun t => if t = i then 1 else 0)
        rw [rdot_vdot, hw.len] at this
        rw [← this]
        exact vdot_congr m (fun _ _ => rfl) fun k _ => (bv_unit hA i k).symm
      have d := hB.det j hj hBj _ hk
      apply hw.mov
      rw [rdot_vdot, hw.len, vdot_congr m (fun _ _ => rfl) fun k hk => vec_unitv hk, vdot_comm, vdot_one, if_pos hj]
      exact d
  · exact intsFit hs.sz (by rw [hs.len]; omega) (by rw [hs.len]; omega)
  · -- the value lies in the span
    refine rank_same k1 k2 ⟨vecR sp, fun j hj => ?_⟩
    rw [hA.1, ← turn_row hA hj, hsp.eq j hj]
  · have hj : j < m := by have := (List.getElem?_eq_some_iff.mp hl).1; omega
    have hG := hg j l hl
    cases l with
    | free g =>
      obtain ⟨gB, g0⟩ := hG
      refine ⟨hB.len g gB, fun x hx => ?_, g0⟩
      unfold unitsOf at hx
      obtain ⟨c, hc, rfl⟩ := List.mem_map.mp hx
      obtain ⟨i, hi, rfl⟩ := List.mem_iff_getElem.mp hc
      have := hB.ker g gB i (by rw [← rT.1]; exact hi)
      have lg := hB.len g gB
      have lT : (turnM w A)[i].length = m := rT.2 _ (List.getElem_mem hi)
      rw [getD_idx hi, rdot_symm (by rw [lT, lg])] at this
      refine rat_int ?_
      rw [inner_rdot _ _ (by rw [lT, lg])]
      exact this
    | held p c =>
      obtain ⟨rfl, hBj, s, hs, rfl⟩ := hG
      obtain ⟨li, la, l0, hla⟩ := intsOf_scale s
      have ls' : s.length = w := hs.len
      have dotk : ∀ k, k < m → vdot w (vecR s) (fun i => ((A.getD k []).getD i 0 : Rat)) = if k = j then 1 else 0 := fun k hk => by
        have := hs.eq k hk
        rw [rdot_vdot, hA.row hk, vdot_comm] at this
        rw [this]
        exact vec_unitv hk
      have ik : ∀ k, k < m → ((inner (intsOf s) (A.getD k []) : Int) : Rat) = if k = j then la else 0 := fun k hk => by
        rw [inner_scale ls' (hA.row hk) hla, dotk k hk]
        split <;> grind
      have ej : ((inner (intsOf s) (A.getD j []) : Int) : Rat) = la := by rw [ik j hj, if_pos rfl]
      have nj : inner (intsOf s) (A.getD j []) ≠ 0 := fun z => l0 (by rw [← ej, z]; rfl)
      have eb : ((inner (intsOf s) b : Int) : Rat) = la * sp.getD j 0 := by
        rw [inner_scale ls' lb hla]
        congr 1
        have e1 : vdot w (vecR s) (fun i => (b.getD i 0 : Rat)) = vdot w (vecR s) (fun i => vdot m (fun k => (ent A k i : Rat)) (vecR sp)) := vdot_congr w (fun _ _ => rfl) fun i hi => by
          rw [← hsp.eq i hi, turn_row hA hi, vdot_comm]
        rw [e1, vdot_two (fun i => fun k => (ent A k i : Rat)) (vecR sp) (vecR s) m w]
        have e2 : vdot m (fun t => vdot w (vecR s) (fun i => (ent A t i : Rat))) (vecR sp) = vdot m (fun t => if t = j then 1 else 0) (vecR sp) := vdot_congr m (fun t ht => dotk t ht) fun _ _ => rfl
        rw [e2, vdot_one, if_pos hj]
      have ep : sp.getD j 0 = Rat.divInt (inner (intsOf s) b) (inner (intsOf s) (A.getD j [])) := by
        rw [Rat.divInt_eq_div, eb, ej]
        grind
      have lj : j < sp.length := by rw [hsp.len]; exact hj
      have sz : (sp.getD j 0).den < 2 ^ 8300 := by
        rw [List.getD_eq_getElem?_getD, List.getElem?_eq_getElem lj]
        exact (hsp.sz _ (List.getElem_mem lj)).2
      have lap : EndsIn 60000 (sp.getD j 0).num.natAbs (sp.getD j 0).den := (EndsIn.bits 8300 _ _ sz).more (by decide)
      refine ⟨by rw [li, ls'], lap, fun k hk => ?_, ?_, ep⟩
      · by_cases e : k = j
        · subst e
          exact ⟨fun _ => rfl, fun _ => nj⟩
        · refine ⟨fun z => absurd (rat_int ?_) z, fun z => absurd z e⟩
          rw [ik k hk, if_neg e]
      · obtain ⟨_, h1, h2⟩ := lowest_eq (inner (intsOf s) b) nj
        rw [← ep] at h1 h2
        have gt : ((Int.gcd (inner (intsOf s) b) (inner (intsOf s) (A.getD j [])) : Nat) : Int) ∣ inner (intsOf s) b := Int.gcd_dvd_left ..
        have gb : ((Int.gcd (inner (intsOf s) b) (inner (intsOf s) (A.getD j [])) : Nat) : Int) ∣ inner (intsOf s) (A.getD j []) := Int.gcd_dvd_right ..
        generalize hgg : (if inner (intsOf s) (A.getD j []) < 0 then -((Int.gcd (inner (intsOf s) b) (inner (intsOf s) (A.getD j [])) : Nat) : Int) else ((Int.gcd (inner (intsOf s) b) (inner (intsOf s) (A.getD j [])) : Nat) : Int)) = g at h1 h2
        have d1 : g ∣ inner (intsOf s) b := by
          rw [← hgg]
          split
          · exact Int.neg_dvd.mpr gt
          · exact gt
        have d2 : g ∣ inner (intsOf s) (A.getD j []) := by
          rw [← hgg]
          split
          · exact Int.neg_dvd.mpr gb
          · exact gb
        have e1 : inner (intsOf s) b = g * (sp.getD j 0).num := by rw [← h1, Int.mul_fdiv_cancel' d1]
        have e2 : inner (intsOf s) (A.getD j []) = g * ((sp.getD j 0).den : Int) := by rw [← h2, Int.mul_fdiv_cancel' d2]
        rw [e1, e2, Int.natAbs_mul, Int.natAbs_mul]
        exact EndsIn.scale _ lap
end K51W

set_option maxHeartbeats 200000
/-! Rules of my own over the hand layer: // of any ints, * up to 2 ^ 27 bits, items read in xs[i] -= e, an attribute as a target, a walk over a list or a tuple. -/
namespace K51W
open PySem PySem.Spec PyProof.Rows L2

/-! ### // of ints of any size -/
/-- the frame that runs is a plain function's -/
def Stk (X : Cx) : Prop := ∃ (env : Env) (l : List Env), X.stack = env :: l ∧ env.scope.isGenerator = false ∧ env.scope.isCoroutine = false ∧ env.builtins = builtinsNs ∧ env.globals = mainGlobals
/-- what the base must show for a division of great ints -/
structure Big (P : Program) (base : Heap) : Prop where
  seer : base.NoSeer
  tree : P.given.tree = none
theorem room_of {X : Cx} {pins : List (Addr × Obj)} {σ : L2.St} {H : Hp} {s : Shared} (B : Big X.prog X.base) (hst : Stk X) (hr : Room 40 X.A) (I : Inv X pins σ H s) : PylongRoom (model X.prog X.w) X.A s := by
  obtain ⟨env, l, e1, e2, e3, e4, e5⟩ := hst
  refine PylongRoom.of I.nolimit ?_ (SeerAt.of (env := env) (l := l) (B.seer.keeps I.bk) B.tree (by rw [I.ok.frames, e1]) e2 e3 e4 e5)
  have := hr.dp
  show X.A.depth + 100 < recursionLimit
  omega
theorem op_fdivP {X : Cx} (B : Big X.prog X.base) (hst : Stk X) (hr : Room 40 X.A) : OpR X (binaryOp .FloorDiv) (rI (fun _ j => j ≠ 0) fun i j => .int (i.fdiv j)) := by
  intro pins s σ H x y v u Q I rx ry h
  obtain ⟨i, j, rfl, rfl, hj, q⟩ := h
  obtain ⟨t, rfl⟩ := rx
  obtain ⟨t', rfl⟩ := ry
  exact floordiv_int hj ⟨.int _, H, I.tok _, ⟨_, rfl⟩, q⟩ (.inr (room_of B hst hr I))

/-! ### * of ints of together less than 2 ^ 27 bits -/
theorem bits_le {x : Int} {a : Nat} (h : x.natAbs < 2 ^ a) : Builtin.Int.intBits x ≤ a := by
  unfold Builtin.Int.intBits
  split
  · exact Nat.zero_le _
  · rename_i hx
    have h0 : x.natAbs ≠ 0 := fun z => hx (by rw [Int.natAbs_eq_zero.mp z]; rfl)
    have := (Nat.log2_lt h0).mpr h
    omega
theorem Mul.ok {i j : Int} (h : Mul i j) : IntMulOk i j := by
  rcases h with h | h | ⟨a, b, h1, h2, h3⟩
  · exact .of_left (bits_le h)
  · exact .of_right (bits_le h)
  · exact .of_le (bits_le h1) (bits_le h2) (by omega)
theorem op_mulP {X : Cx} : OpR X (binaryOp .Mult) (rI Mul fun i j => .int (i * j)) := opI fun _ _ _ _ _ _ _ hc q => mul_int q hc.ok

/-! ### xs[i] read ahead of a store by an operator -/
def rGetL (K : PySem.W.Frag) : V → V → Hp → VK → Prop := fun o i H Q => ∃ (p : Addr) (xs : List V) (k : Nat) (v : V), o = .ref p ∧ i = .int (k : Int) ∧ SqL K H p xs ∧ k < 2 ^ 62 ∧ xs[k]? = some v ∧ Q v H
theorem get_list {X : Cx} : PGet X (rGetL X.K) := by
  intro pins s σ H o i ov iv Q I ro ri h
  obtain ⟨p, xs, k, v, rfl, rfl, hq, hk, hv, q⟩ := h
  cases ro
  obtain ⟨t, rfl⟩ := ri
  obtain ⟨its, r, pl, _⟩ := I.list hq
  obtain ⟨u, hu, ru⟩ := r.get hv
  refine wpAny_getItem_list pl.isList (by omega) (by omega) (x := u) ?_ ⟨v, H, I, ru, q⟩
  simpa using hu

/-! ### an attribute as a target -/
def gFld (K : PySem.W.Frag) (to : TE) (f : Str) : TG := fun v σ H Q => to σ H fun x H1 => ∃ (a C dx : Addr) (fs : List (Str × V)), x = .ref a ∧ H1 a = some (.ins C dx fs) ∧ Cls K C ∧ NoAttr K C f ∧ fs.length < 1000 ∧ Q σ (upd H1 a (.ins C dx (putF f v fs)))
theorem pg_fld {X : Cx} {o : Expr} {f : Str} {to : TE} {pos : Pos} (ho : PE X o to) : PG X (.Attribute o f pos) (gFld X.K to f) := by
  refine ⟨fun pins s σ H v u Q I r h => ?_⟩
  show wpAny _ _ (do
    let ov ← holding [u] (eval o X.env)
    standAt pos.atName
    holding [u, ov] (setAttr ov f u)
    release [u, ov] []) _ _ s
  refine wpAny_bind (wpAny_holding (thn (ho.run pins s σ H _ I h) fun ov s1 ⟨x, H1, I1, r1, a, C, dx, fs, e, ea, c, n, hl, q⟩ => ?_))
  subst e
  obtain rfl : ov = Value.ref a := r1
  refine wpAny_bind (wpAny_standAt (wpAny_bind (wpAny_holding (setattr_ok I1 ea c n hl r fun s2 I2 => ?_))))
  exact wpAny_release ⟨σ, _, I2, q⟩

/-! ### a walk over a list or a tuple -/
def SeqR (K : PySem.W.Frag) (H : Hp) (a : Addr) (xs : List V) (R : It → Hp → Prop) : Prop := (SqL K H a xs ∧ R (Itl K a) H) ∨ (SqT K H a xs ∧ R (Itt K a) H)
def iSeq (K : PySem.W.Frag) (tl : TE) : TI := fun σ H R => tl σ H fun x H1 => ∃ a xs, x = .ref a ∧ SeqR K H1 a xs R
theorem pi_seq {X : Cx} {tg l : Expr} {tl : TE} (hl : PE X l tl) : PI X tg l (iSeq X.K tl) := by
  refine ⟨fun pins s σ H R I h => ?_⟩
  refine thn (hl.run pins s σ H _ I h) fun v s1 ⟨x, H1, I1, r1, a, xs, e, q⟩ => ?_
  subst e
  cases r1
  have fr : ∀ b ∈ [s1.heap.objs.size], FpOk X pins H1 b := fun b hb => by
    obtain rfl : b = s1.heap.objs.size := by simpa using hb
    exact I1.fpOk (Nat.le_refl _) (I1.hok.fresh (Nat.le_refl _))
  rcases q with ⟨hq, q⟩ | ⟨hq, q⟩
  · obtain ⟨its, _, p, _⟩ := I1.list hq
    exact wpAny_pyIter_list p.isList ⟨_, _, _, _, H1, rfl, I1.kept (t' := s1.toks) fun b o e => Heap.get?_push_of_some _ e, turn_list a _, ⟨_, Heap.get?_push_size _ rfl, rfl, rfl⟩, fr, q⟩
  · obtain ⟨its, _, p, _⟩ := I1.tuple hq
    exact wpAny_pyIter_tuple (show s1.heap.IsTuple a its.toArray from p) ⟨_, _, _, _, H1, rfl, I1.kept (t' := s1.toks) fun b o e => Heap.get?_push_of_some _ e, turn_tuple a _, ⟨_, Heap.get?_push_size _ rfl, rfl, rfl⟩, fr, q⟩

/-! ### defs by their names -/
/-- the def named x keeps the promise sp at level k -/
structure Fn (P : Program) (w : World) (K : PySem.W.Frag) (mg : Str → Option Value) (base : Heap) (k : Nat) (x : Str) (ps : List Str) (sp : Sp) : Prop where
  ex : ∃ f fd, mg x = some (.ref f) ∧ PySem.W.keepIn K (.ref f) = true ∧ Binds K fd ps [] ∧ FnOk P w K mg base CX0 k f fd ps sp
theorem pe_fn {X : Cx} {k : Nat} {x : Str} {ps : List Str} {sp : Sp} {p pos : Pos} {e : Expr} {es : List Expr} {t : TA} (F : Fn X.prog X.w X.K X.mg X.base k x ps sp) (hr : Room k X.A) (hg : Gl X x) (ha : PA X (e :: es) t)
    (hst : starEach (e :: es) X.env = (false, eval e X.env) :: starEach es X.env := by rfl) (hpl : (backTo pos (starEach es X.env)).any (·.1) = false := by rfl) (hd : (x == ("__debug__" : Str)) = false := by decide) :
    PE X (.Call (.Name x p) (e :: es) [] pos) (tCall sp [] E0 t) := by
  obtain ⟨f, fd, h1, h2, h3, h4⟩ := F.ex
  exact pe_call h4 hr hg h1 h2 h3 .nil pass0 ha hd hst hpl
/-- a method of the class at C -/
structure Md (P : Program) (w : World) (K : PySem.W.Frag) (mg : Str → Option Value) (base : Heap) (k : Nat) (C : Addr) (m : Str) (ps : List Str) (sp : Sp) : Prop where
  ex : ∃ f fd, Meth K C m f ∧ Binds K fd ps [] ∧ FnOk P w K mg base CX0 k f fd ps sp

/-! ### the rules that look into the written part, with K named (for the blocks of comprehensions) -/
section
variable {X : Cx} {K : PySem.W.Frag}
theorem ixL (h : X.K = K) : IxR X (rIxL K) := h ▸ ix_list
theorem ixT (h : X.K = K) : IxR X (rIxT K) := h ▸ ix_tup
theorem ixS (h : X.K = K) : IxR X (rIx K) := h ▸ ix_seq
theorem slL (h : X.K = K) : SlR X (rSlL K) := h ▸ sl_list
abbrev rLn (K : PySem.W.Frag) : List V → Hp → VK → Prop := fun xs H Q => ∃ p ys, xs = [.ref p] ∧ (SqL K H p ys ∨ SqT K H p ys) ∧ Q (.int ys.length) H
abbrev rLo (K : PySem.W.Frag) : List V → Hp → VK → Prop := fun xs H Q => ∃ p ys, xs = [.ref p] ∧ (SqL K H p ys ∨ SqT K H p ys) ∧ ∀ l, H l = none → Q (.ref l) (upd H l (.lst ys))
abbrev rTo (K : PySem.W.Frag) : List V → Hp → VK → Prop := fun xs H Q => ∃ p ys, xs = [.ref p] ∧ ((SqL K H p ys ∧ ∀ l, H l = none → Q (.ref l) (upd H l (.tup ys))) ∨ (SqT K H p ys ∧ Q (.ref p) H))
theorem lenS (h : X.K = K) : CallR X (.builtin "len") (rLn K) := h ▸ call_len_seq
theorem listO (h : X.K = K) : CallR X (.type "list") (rLo K) := h ▸ call_list_of
theorem tupO (h : X.K = K) : CallR X (.type "tuple") (rTo K) := h ▸ call_tuple_of
theorem anyK (h : X.K = K) (hc : X.calm = true) : CallR X (.builtin "any") (rAny K) := h ▸ cr_any hc
theorem allK (h : X.K = K) (hc : X.calm = true) : CallR X (.builtin "all") (rAll K) := h ▸ cr_all hc
theorem sumK (h : X.K = K) (hc : X.calm = true) : CallR X (.builtin "sum") (rSum K) := h ▸ cr_sum hc
theorem isiK (h : X.K = K) : CallR X (.builtin "isinstance") (rIsi K) := h ▸ call_isi
theorem isiTK (h : X.K = K) : CallR X (.builtin "isinstance") (rIsiT K) := h ▸ call_isiT
theorem eqD (h : X.K = K) (hu : X.A.units + 64 < cLine) : OpR X (compareOp .Eq) (rEqD K) := h ▸ op_eqD hu
theorem neD (h : X.K = K) (hu : X.A.units + 64 < cLine) : OpR X (compareOp .NotEq) (rNeD K) := h ▸ op_neD hu
theorem tupG (h : X.K = K) {es : List Expr} {k : Nat} {pos : Pos} {t : TGs} {n : Nat} (hc : X.calm = true) (hp : PGs X es t) (hn : (assignEach es X.env).length = n) (hst : (assignEach es X.env).findIdx? (·.1) = none) : PG X (.Tuple es k pos) (gTup K n t) := h ▸ pg_tup hc hp hn hst
theorem piL (h : X.K = K) {tg l : Expr} {tl : TE} (hl : PE X l tl) : PI X tg l (iList K tl) := h ▸ pi_list hl
theorem piT (h : X.K = K) {tg l : Expr} {tl : TE} (hl : PE X l tl) : PI X tg l (iTup K tl) := h ▸ pi_tup hl
theorem piS (h : X.K = K) {tg l : Expr} {tl : TE} (hl : PE X l tl) : PI X tg l (iSeq K tl) := h ▸ pi_seq hl
theorem fldK (h : X.K = K) {e : Expr} {f : Str} {pos : Pos} {ta : TE} (he : PE X e ta) (hb : attributeBase e f X.env (eval e X.env) = eval e X.env) : PE X (.Attribute e f pos) (tFld K ta f) := h ▸ pe_fld he hb
theorem getL (h : X.K = K) : PGet X (rGetL K) := h ▸ get_list
theorem fldG (h : X.K = K) {o : Expr} {f : Str} {to : TE} {pos : Pos} (ho : PE X o to) : PG X (.Attribute o f pos) (gFld K to f) := h ▸ pg_fld ho
theorem piZ (h : X.K = K) {e e2 : Expr} {ta : TA} {p pos tpos : Pos} {elts : List Expr} {kk : Nat} (hg : Gl X "zip") (hm : X.mg "zip" = none) (ha : PA X [e, e2] ta)
    (hs : starEach [e, e2] X.env = (false, eval e X.env) :: starEach [e2] X.env) (hpl : (backTo pos (starEach [e2] X.env)).any (·.1) = false) :
    PI X (.Tuple elts kk tpos) (.Call (.Name "zip" p) [e, e2] [] pos) (iZip K ta) := h ▸ pi_zip hg hm ha hs hpl
end
end K51W

set_option maxHeartbeats 200000
/-! Heaps in parts, data in them, comprehensions that make one item a turn. -/
namespace K51W
open PySem PySem.Spec L2
abbrev Sto := L2.St

/-! ### heaps -/
theorem same_new {H : Hp} {p : Addr} {o : HO} (h : H p = none) : Same H (upd H p o) := fun b x e => by
  rw [upd_ne (ne_of_none e h)]
  exact e
theorem same_mut {G H : Hp} {p : Addr} {o : HO} (s : Same G H) (h : G p = none) : Same G (upd H p o) := fun b x e => by
  rw [upd_ne (ne_of_none e h)]
  exact s b x e
/-- without one address -/
def wo (H : Hp) (D : Addr) : Hp := fun a => if a = D then none else H a
theorem wo_same {H H' : Hp} {D : Addr} (s : Same H H') : Same (wo H D) (wo H' D) := fun b x e => by
  unfold wo at e ⊢
  by_cases h : b = D
  · rw [if_pos h] at e; cases e
  · rw [if_neg h] at e ⊢; exact s b x e
theorem wo_le {H : Hp} {D : Addr} : Same (wo H D) H := fun b x e => by
  unfold wo at e
  by_cases h : b = D
  · rw [if_pos h] at e; cases e
  · rw [if_neg h] at e; exact e
theorem wo_upd {H : Hp} {D : Addr} {o : HO} : wo (upd H D o) D = wo H D := funext fun a => by
  unfold wo
  by_cases h : a = D
  · rw [if_pos h, if_pos h]
  · rw [if_neg h, if_neg h, upd_ne h]
theorem wo_at {H : Hp} {D a : Addr} (h : a ≠ D) : wo H D a = H a := if_neg h
theorem wo_none {H : Hp} {D : Addr} : wo H D D = none := if_pos rfl
/-- what stood in G, and what came since H0 -/
def nw (G H0 H : Hp) : Hp := fun a => match H0 a with
  | none => H a
  | some _ => G a
theorem nw_new {G H0 H : Hp} {a : Addr} (h : H0 a = none) : nw G H0 H a = H a := by unfold nw; rw [h]
theorem nw_old {G H0 H : Hp} {a : Addr} {o : HO} (h : H0 a = some o) : nw G H0 H a = G a := by unfold nw; rw [h]
theorem nw_ge {G H0 H : Hp} (s : Same G H0) : Same G (nw G H0 H) := fun a o e => by rw [nw_old (s a o e)]; exact e
theorem nw_le {G H0 H : Hp} (s : Same G H) : Same (nw G H0 H) H := fun a o e => by
  cases h : H0 a with
  | none => rwa [nw_new h] at e
  | some u => rw [nw_old h] at e; exact s a o e
theorem nw_mono {G H0 H H' : Hp} (s : Same H H') : Same (nw G H0 H) (nw G H0 H') := fun a o e => by
  cases h : H0 a with
  | none => rw [nw_new h] at e ⊢; exact s a o e
  | some u => rw [nw_old h] at e ⊢; exact e
theorem nw_trans {G H0 H1 H2 : Hp} (s1 : Same H0 H1) (s2 : Same H1 H2) : Same (nw (nw G H0 H1) H1 H2) (nw G H0 H2) := fun a o e => by
  cases h : H1 a with
  | none =>
    rw [nw_new h] at e
    rw [nw_new (s1.free h)]
    exact e
  | some u =>
    rw [nw_old h] at e
    cases h0 : H0 a with
    | none => rw [nw_new h0] at e ⊢; exact s2 a o e
    | some v => rw [nw_old h0] at e ⊢; exact e
theorem nw_none {G H0 H : Hp} {a : Addr} (h : H0 a ≠ none) (g : G a = none) : nw G H0 H a = none := by
  cases e : H0 a with
  | none => exact absurd e h
  | some u => rw [nw_old e]; exact g

/-! ### sequences, data -/
theorem sqL {K : PySem.W.Frag} {H : Hp} {a : Addr} {xs : List V} (h : H a = some (.lst xs)) : SqL K H a xs := .inl (.inl h)
theorem sqT {K : PySem.W.Frag} {H : Hp} {a : Addr} {xs : List V} (h : H a = some (.tup xs)) : SqT K H a xs := .inl (.inl h)
theorem Same.seqT {K : PySem.W.Frag} {H H' : Hp} {a : Addr} {xs : List V} (e : Same H H') (h : SqT K H a xs) : SqT K H' a xs := by
  rcases h with (h | ⟨o, h⟩) | h
  · exact .inl (.inl (e _ _ h))
  · exact .inl (.inr ⟨o, e _ _ h⟩)
  · exact .inr h
mutual
theorem Dp.up {K : PySem.W.Frag} {H H' : Hp} (s : Same H H') : ∀ (d : PyData) {v : V}, Dp K H v d → Dp K H' v d
  | _, _, .non => .non
  | _, _, .bl b => .bl b
  | _, _, .int i => .int i
  | _, _, .str x => .str x
  | .list ds, _, .lst q r => .lst (s.seq q) (DpAll.up s ds r)
  | .tuple ds, _, .tup q r => .tup (Same.seqT s q) (DpAll.up s ds r)
theorem DpAll.up {K : PySem.W.Frag} {H H' : Hp} (s : Same H H') : ∀ (ds : List PyData) {vs : List V}, DpAll K H vs ds → DpAll K H' vs ds
  | _, _, .nil => .nil
  | d :: ds, _, .cons q r => .cons (Dp.up s d q) (DpAll.up s ds r)
end
theorem DpAll.ints {K : PySem.W.Frag} {H : Hp} : ∀ (ns : List Int), DpAll K H (ns.map V.int) (ns.map PyData.int)
  | [] => .nil
  | n :: r => .cons (.int n) (DpAll.ints r)
theorem DpAll.ints_inv {K : PySem.W.Frag} {H : Hp} : ∀ {ns : List Int} {vs : List V}, DpAll K H vs (ns.map PyData.int) → vs = ns.map V.int
  | [], _, .nil => rfl
  | n :: r, _, .cons (.int _) q => by rw [DpAll.ints_inv q]; rfl
theorem DpAll.len {K : PySem.W.Frag} {H : Hp} : ∀ {vs : List V} {ds : List PyData}, DpAll K H vs ds → vs.length = ds.length
  | _, _, .nil => rfl
  | _, _, .cons _ r => by rw [List.length_cons, List.length_cons, DpAll.len r]
theorem DpAll.get {K : PySem.W.Frag} {H : Hp} : ∀ {vs : List V} {ds : List PyData} {i : Nat} {d : PyData}, DpAll K H vs ds → ds[i]? = some d → ∃ v, vs[i]? = some v ∧ Dp K H v d
  | _, _, _, _, .nil, e => by simp at e
  | _, _, 0, _, .cons q _, e => by simp at e; subst e; exact ⟨_, rfl, q⟩
  | _, _, i + 1, d, .cons _ r, e => by
    obtain ⟨v, h1, h2⟩ := DpAll.get (i := i) (d := d) r (by simpa using e)
    exact ⟨v, by simpa using h1, h2⟩
theorem DpAll.getV {K : PySem.W.Frag} {H : Hp} {vs : List V} {ds : List PyData} {i : Nat} {v : V} (q : DpAll K H vs ds) (e : vs[i]? = some v) : ∃ d, ds[i]? = some d ∧ Dp K H v d := by
  have hi := (List.getElem?_eq_some_iff.mp e).1
  have hi2 : i < ds.length := by rw [← DpAll.len q]; exact hi
  obtain ⟨u, h1, h2⟩ := DpAll.get q (List.getElem?_eq_getElem hi2)
  rw [e] at h1
  cases h1
  exact ⟨_, List.getElem?_eq_getElem hi2, h2⟩
theorem DpAll.of {K : PySem.W.Frag} {H : Hp} : ∀ {vs : List V} {ds : List PyData}, vs.length = ds.length → (∀ (i : Nat) (v : V) (d : PyData), vs[i]? = some v → ds[i]? = some d → Dp K H v d) → DpAll K H vs ds
  | [], [], _, _ => .nil
  | [], _ :: _, h, _ => by simp at h
  | _ :: _, [], h, _ => by simp at h
  | v :: vs, d :: ds, h, q => .cons (q 0 v d rfl rfl) (DpAll.of (by simpa using h) fun i v' d' a b => q (i + 1) v' d' (by simpa using a) (by simpa using b))
theorem Dp.lstI {K : PySem.W.Frag} {H : Hp} {v : V} {ds : List PyData} (h : Dp K H v (.list ds)) : ∃ a xs, v = .ref a ∧ SqL K H a xs ∧ DpAll K H xs ds := by
  cases h with
  | lst q r => exact ⟨_, _, rfl, q, r⟩
theorem Dp.tupI {K : PySem.W.Frag} {H : Hp} {v : V} {ds : List PyData} (h : Dp K H v (.tuple ds)) : ∃ a xs, v = .ref a ∧ SqT K H a xs ∧ DpAll K H xs ds := by
  cases h with
  | tup q r => exact ⟨_, _, rfl, q, r⟩
theorem Dp.intI {K : PySem.W.Frag} {H : Hp} {v : V} {i : Int} (h : Dp K H v (.int i)) : v = .int i := by cases h; rfl

/-! ### comprehensions -/
section
variable {J : It} {n : Nat} {Gd : Hp → Prop} {Y : Nat → Hp → V → Hp → Prop} {g : TG} {tt : TT} {te : TE} {vs : List Nat} {σ : Sto} {H1 : Hp} {D : Addr} {Qd : Hp → Prop}
/-- one item a turn, R i of it; R looks at the heap without the new list -/
theorem lc_map (w : Walk J n Gd Y) (hD : H1 D = none) (R : Nat → V → Hp → Prop) (mono : ∀ i v H H', Same H H' → R i v H → R i v H') (hn : n ≤ 100000) (hG : ∀ H, Same H1 H → Gd H)
    (hs : ∀ i x H H', i < n → Same H1 H → H D ≠ none → Y i H x H' → ∀ (N : V → Hp → Prop), (∀ y H4, Same H H4 → R i y (wo H4 D) → N y H4) →
      g x (wipe σ vs) H' fun σ2 H2 => wipe σ2 vs = wipe σ vs ∧ te σ2 H2 N)
    (hd : ∀ (H : Hp) (ys : List V), Same H1 H → H D = some (.lst ys) → ys.length = n → (∀ (i : Nat) (y : V), ys[i]? = some y → R i y (wo H D)) → Qd H) :
    ∃ W : Nat → Nat → Hp → Prop, (∃ m, W 0 m (upd H1 D (.lst []))) ∧ ∀ i m H, W i m H →
      (J.stop i H ∧ Qd H) ∨ (J.go i H ∧ ∃ Nx : Hp → Prop, (∀ H', Nx H' → ∃ m', m' < m ∧ W (i + 1) m' H') ∧ ∀ x H', J.yld i H x H' → g x (wipe σ vs) H' fun σ2 H2 => wipe σ2 vs = wipe σ vs ∧ tYes σ2 H2 fun b H3 =>
        if b = true then te σ2 H3 fun y H4 => ∃ acc, H4 D = some (.lst acc) ∧ acc.length < sizeLine ∧ Nx (upd H4 D (.lst (acc ++ [y]))) else Nx H3) := by
  refine lc_it w (fun i H => ∃ ys, Same H1 H ∧ H D = some (.lst ys) ∧ ys.length = i ∧ ∀ (j : Nat) (y : V), ys[j]? = some y → R j y (wo H D)) ⟨[], same_new hD, upd_same, rfl, fun j y e => by simp at e⟩
    (fun i H _ ⟨ys, s1, _⟩ => hG H s1) (fun i x H H' hi ⟨ys, s1, h1, h2, h3⟩ hy => ?_) (fun H ⟨ys, s1, h1, h2, h3⟩ => hd H ys s1 h1 h2 h3)
  have key := hs i x H H' hi s1 (by rw [h1]; exact fun z => nomatch z) hy (fun y H4 => ∃ acc, H4 D = some (.lst acc) ∧ acc.length < sizeLine ∧ ∃ ys, Same H1 (upd H4 D (.lst (acc ++ [y]))) ∧ (upd H4 D (.lst (acc ++ [y]))) D = some (.lst ys) ∧ ys.length = i + 1 ∧ ∀ (j : Nat) (z : V), ys[j]? = some z → R j z (wo (upd H4 D (.lst (acc ++ [y]))) D)) fun y H4 s4 r => ?_
  · unfold tYes
    simp only [if_true]
    exact key
  refine ⟨ys, s4 _ _ h1, Nat.lt_of_lt_of_le (by omega : ys.length < 100000) (by decide), ys ++ [y], ?_, upd_same, by simp [h2], fun j z e => ?_⟩
  · exact same_mut (s1.trans s4) hD
  · rw [wo_upd]
    rcases Nat.lt_trichotomy j ys.length with q | q | q
    · rw [List.getElem?_append_left q] at e
      exact mono _ _ _ _ (wo_same s4) (h3 j z e)
    · subst q
      simp at e
      subst e
      rw [h2]
      exact r
    · rw [List.getElem?_append_right (by omega), List.getElem?_eq_none (by simp; omega)] at e
      cases e
/-- some items, told by f; what is kept is flat (it does not hang on the heap) -/
theorem lc_fm (w : Walk J n Gd Y) (hD : H1 D = none) (f : Nat → Option V) (hn : n ≤ 100000) (hG : ∀ H, Same H1 H → Gd H)
    (hs : ∀ i x H H', i < n → Same H1 H → H D ≠ none → Y i H x H' → ∀ (N : V → Hp → Prop) (F : Hp → Prop), (∀ y H4, Same H H4 → f i = some y → N y H4) → (∀ H4, Same H H4 → f i = none → F H4) →
      g x (wipe σ vs) H' fun σ2 H2 => wipe σ2 vs = wipe σ vs ∧ tt σ2 H2 fun b H3 => if b = true then te σ2 H3 N else F H3)
    (hd : ∀ (H : Hp), Same H1 H → H D = some (.lst ((List.range n).filterMap f)) → Qd H) :
    ∃ W : Nat → Nat → Hp → Prop, (∃ m, W 0 m (upd H1 D (.lst []))) ∧ ∀ i m H, W i m H →
      (J.stop i H ∧ Qd H) ∨ (J.go i H ∧ ∃ Nx : Hp → Prop, (∀ H', Nx H' → ∃ m', m' < m ∧ W (i + 1) m' H') ∧ ∀ x H', J.yld i H x H' → g x (wipe σ vs) H' fun σ2 H2 => wipe σ2 vs = wipe σ vs ∧ tt σ2 H2 fun b H3 =>
        if b = true then te σ2 H3 fun y H4 => ∃ acc, H4 D = some (.lst acc) ∧ acc.length < sizeLine ∧ Nx (upd H4 D (.lst (acc ++ [y]))) else Nx H3) := by
  refine lc_it w (fun i H => Same H1 H ∧ H D = some (.lst ((List.range i).filterMap f))) ⟨same_new hD, upd_same⟩
    (fun i H _ ⟨s1, _⟩ => hG H s1) (fun i x H H' hi ⟨s1, h1⟩ hy => ?_) (fun H ⟨s1, h1⟩ => hd H s1 h1)
  refine hs i x H H' hi s1 (by rw [h1]; exact fun z => nomatch z) hy _ _ (fun y H4 s4 r => ?_) fun H4 s4 r => ?_
  · refine ⟨_, s4 _ _ h1, Nat.lt_of_le_of_lt (Nat.le_trans (List.length_filterMap_le _ _) (by rw [List.length_range]; omega : (List.range i).length ≤ 100000)) (by decide), same_mut (s1.trans s4) hD, ?_⟩
    rw [upd_same, List.range_succ, List.filterMap_append]
    simp [r]
  · refine ⟨s1.trans s4, ?_⟩
    rw [s4 _ _ h1, List.range_succ, List.filterMap_append]
    simp [r]
end
end K51W

set_option maxHeartbeats 200000
/-! The text by places; the scopes; what every def's promise leans on. -/
namespace K51W
open PySem PySem.Spec PyProof.Rows L2
def top (i : Nat) : Stmt := PySem.Challenge.pw_allscales_k51_whole_kinds_of_letters.main.body.getD i (.Pass ⟨0, 0, 0, 0⟩)
abbrev s_BadMatrix_init : Stmt := inClass (top 2) 0
theorem sc_BadMatrix_init : FnScope ["self", "what"] ["self", "what"] (defScope s_BadMatrix_init) :=
  ⟨rfl, rfl, rfl, by decide +kernel, rfl, by decide +kernel, by decide +kernel⟩
abbrev s_common_divisor : Stmt := top 4
theorem sc_common_divisor : FnScope ["one", "two"] ["one", "two"] (defScope s_common_divisor) :=
  ⟨rfl, rfl, rfl, by decide +kernel, rfl, by decide +kernel, by decide +kernel⟩
abbrev s_lowest : Stmt := top 5
theorem sc_lowest : FnScope ["top", "bottom", "by"] ["top", "bottom"] (defScope s_lowest) :=
  ⟨rfl, rfl, rfl, by decide +kernel, rfl, by decide +kernel, by decide +kernel⟩
abbrev s_is_whole : Stmt := top 6
theorem sc_is_whole : FnScope ["value"] ["value"] (defScope s_is_whole) :=
  ⟨rfl, rfl, rfl, by decide +kernel, rfl, by decide +kernel, by decide +kernel⟩
abbrev s_plus : Stmt := top 7
theorem sc_plus : FnScope ["one", "two"] ["one", "two"] (defScope s_plus) :=
  ⟨rfl, rfl, rfl, by decide +kernel, rfl, by decide +kernel, by decide +kernel⟩
abbrev s_times : Stmt := top 8
theorem sc_times : FnScope ["one", "two"] ["one", "two"] (defScope s_times) :=
  ⟨rfl, rfl, rfl, by decide +kernel, rfl, by decide +kernel, by decide +kernel⟩
abbrev s_over : Stmt := top 9
theorem sc_over : FnScope ["one", "two"] ["one", "two"] (defScope s_over) :=
  ⟨rfl, rfl, rfl, by decide +kernel, rfl, by decide +kernel, by decide +kernel⟩
abbrev s_dot : Stmt := top 10
theorem sc_dot : FnScope ["row", "other", "found", "one", "two"] ["row", "other"] (defScope s_dot) :=
  ⟨rfl, rfl, rfl, by decide +kernel, rfl, by decide +kernel, by decide +kernel⟩
abbrev s_common_bottom : Stmt := top 11
theorem sc_common_bottom : FnScope ["row", "bottom", "value"] ["row"] (defScope s_common_bottom) :=
  ⟨rfl, rfl, rfl, by decide +kernel, rfl, by decide +kernel, by decide +kernel⟩
abbrev s_integers : Stmt := top 12
theorem sc_integers : FnScope ["row", "bottom", "found", "value", "by", "number"] ["row"] (defScope s_integers) :=
  ⟨rfl, rfl, rfl, by decide +kernel, rfl, by decide +kernel, by decide +kernel⟩
abbrev s_identity : Stmt := top 14
theorem sc_identity : FnScope ["many", "j", "k"] ["many"] (defScope s_identity) :=
  ⟨rfl, rfl, rfl, by decide +kernel, rfl, by decide +kernel, by decide +kernel⟩
abbrev s_turned : Stmt := top 15
theorem sc_turned : FnScope ["rows", "row", "k"] ["rows"] (defScope s_turned) :=
  ⟨rfl, rfl, rfl, by decide +kernel, rfl, by decide +kernel, by decide +kernel⟩
abbrev s_nearest : Stmt := top 16
theorem sc_nearest : FnScope ["one", "two"] ["one", "two"] (defScope s_nearest) :=
  ⟨rfl, rfl, rfl, by decide +kernel, rfl, by decide +kernel, by decide +kernel⟩
abbrev s_less_multiple : Stmt := top 17
theorem sc_less_multiple : FnScope ["row", "by", "other", "one", "two"] ["row", "by", "other"] (defScope s_less_multiple) :=
  ⟨rfl, rfl, rfl, by decide +kernel, rfl, by decide +kernel, by decide +kernel⟩
abbrev s_smallest_at : Stmt := top 18
theorem sc_smallest_at : FnScope ["rows", "column", "start", "best", "k", "item"] ["rows", "column", "start"] (defScope s_smallest_at) :=
  ⟨rfl, rfl, rfl, by decide +kernel, rfl, by decide +kernel, by decide +kernel⟩
abbrev s_cleared_below : Stmt := top 19
theorem sc_cleared_below : FnScope ["work", "column", "place", "best", "lead", "k"] ["work", "column", "place"] (defScope s_cleared_below) :=
  ⟨rfl, rfl, rfl, by decide +kernel, rfl, by decide +kernel, by decide +kernel⟩
abbrev s_formed : Stmt := top 20
theorem sc_formed : FnScope ["work", "wide", "place", "column", "item", "lead", "k", "by"] ["work", "wide"] (defScope s_formed) :=
  ⟨rfl, rfl, rfl, by decide +kernel, rfl, by decide +kernel, by decide +kernel⟩
abbrev s_hermite_of : Stmt := top 21
theorem sc_hermite_of : FnScope ["rows", "wide", "work", "row", "one"] ["rows"] (defScope s_hermite_of) :=
  ⟨rfl, rfl, rfl, by decide +kernel, rfl, by decide +kernel, by decide +kernel⟩
abbrev s_basis_rows : Stmt := top 22
theorem sc_basis_rows : FnScope ["rows", "work", "row", "item"] ["rows"] (defScope s_basis_rows) :=
  ⟨rfl, rfl, rfl, by decide +kernel, rfl, by decide +kernel, by decide +kernel⟩
abbrev s_Work_init : Stmt := inClass (top 23) 0
theorem sc_Work_init : FnScope ["self", "rows", "row"] ["self", "rows"] (defScope s_Work_init) :=
  ⟨rfl, rfl, rfl, by decide +kernel, rfl, by decide +kernel, by decide +kernel⟩
abbrev s_Work_take_row : Stmt := inClass (top 23) 1
theorem sc_Work_take_row : FnScope ["self", "k", "by", "j"] ["self", "k", "by", "j"] (defScope s_Work_take_row) :=
  ⟨rfl, rfl, rfl, by decide +kernel, rfl, by decide +kernel, by decide +kernel⟩
abbrev s_Work_take_column : Stmt := inClass (top 23) 2
theorem sc_Work_take_column : FnScope ["self", "k", "by", "j", "row"] ["self", "k", "by", "j"] (defScope s_Work_take_column) :=
  ⟨rfl, rfl, rfl, by decide +kernel, rfl, by decide +kernel, by decide +kernel⟩
abbrev s_Work_swap : Stmt := inClass (top 23) 3
theorem sc_Work_swap : FnScope ["self", "k", "j", "start", "row"] ["self", "k", "j", "start"] (defScope s_Work_swap) :=
  ⟨rfl, rfl, rfl, by decide +kernel, rfl, by decide +kernel, by decide +kernel⟩
abbrev s_Work_smallest : Stmt := inClass (top 23) 4
theorem sc_Work_smallest : FnScope ["self", "start", "best", "k", "j", "item"] ["self", "start"] (defScope s_Work_smallest) :=
  ⟨rfl, rfl, rfl, by decide +kernel, rfl, by decide +kernel, by decide +kernel⟩
abbrev s_Work_crossed_out : Stmt := inClass (top 23) 5
theorem sc_Work_crossed_out : FnScope ["self", "start", "pivot", "k", "j", "column", "item"] ["self", "start"] (defScope s_Work_crossed_out) :=
  ⟨rfl, rfl, rfl, by decide +kernel, rfl, by decide +kernel, by decide +kernel⟩
abbrev s_Work_uneven : Stmt := inClass (top 23) 6
theorem sc_Work_uneven : FnScope ["self", "start", "pivot", "k", "item"] ["self", "start"] (defScope s_Work_uneven) :=
  ⟨rfl, rfl, rfl, by decide +kernel, rfl, by decide +kernel, by decide +kernel⟩
abbrev s_Work_settle : Stmt := inClass (top 23) 7
theorem sc_Work_settle : FnScope ["self", "start", "best", "k"] ["self", "start"] (defScope s_Work_settle) :=
  ⟨rfl, rfl, rfl, by decide +kernel, rfl, by decide +kernel, by decide +kernel⟩
abbrev s_smith_of : Stmt := top 24
theorem sc_smith_of : FnScope ["rows", "work", "start", "item"] ["rows"] (defScope s_smith_of) :=
  ⟨rfl, rfl, rfl, by decide +kernel, rfl, by decide +kernel, by decide +kernel⟩
abbrev s_kernel_of : Stmt := top 25
theorem sc_kernel_of : FnScope ["rows", "basis", "row", "right", "columns"] ["rows"] (defScope s_kernel_of) :=
  ⟨rfl, rfl, rfl, by decide +kernel, rfl, by decide +kernel, by decide +kernel⟩
abbrev s_Equations_init : Stmt := inClass (top 26) 0
theorem sc_Equations_init : FnScope ["self", "rows", "middle", "row", "item"] ["self", "rows"] (defScope s_Equations_init) :=
  ⟨rfl, rfl, rfl, by decide +kernel, rfl, by decide +kernel, by decide +kernel⟩
abbrev s_Equations_weighed : Stmt := inClass (top 26) 1
theorem sc_Equations_weighed : FnScope ["self", "row", "by", "found", "k", "one", "j", "item"] ["self", "row", "by"] (defScope s_Equations_weighed) :=
  ⟨rfl, rfl, rfl, by decide +kernel, rfl, by decide +kernel, by decide +kernel⟩
abbrev s_Equations_left_over : Stmt := inClass (top 26) 2
theorem sc_Equations_left_over : FnScope ["self", "sides", "whole", "k", "by", "item"] ["self", "sides", "whole"] (defScope s_Equations_left_over) :=
  ⟨rfl, rfl, rfl, by decide +kernel, rfl, by decide +kernel, by decide +kernel⟩
abbrev s_Equations_answer_to : Stmt := inClass (top 26) 3
theorem sc_Equations_answer_to : FnScope ["self", "right", "whole", "sides", "item", "row", "weights", "left", "middle", "other", "found", "k", "value"] ["self", "right", "whole"] (defScope s_Equations_answer_to) :=
  ⟨rfl, rfl, rfl, by decide +kernel, rfl, by decide +kernel, by decide +kernel⟩
abbrev s_ratio_solution : Stmt := top 27
theorem sc_ratio_solution : FnScope ["rows", "right", "bottoms", "row", "whole", "value", "by", "sides", "spot", "weights", "weight"] ["rows", "right"] (defScope s_ratio_solution) :=
  ⟨rfl, rfl, rfl, by decide +kernel, rfl, by decide +kernel, by decide +kernel⟩
abbrev s_pairs_of : Stmt := top 28
theorem sc_pairs_of : FnScope ["rows", "item", "row"] ["rows"] (defScope s_pairs_of) :=
  ⟨rfl, rfl, rfl, by decide +kernel, rfl, by decide +kernel, by decide +kernel⟩
abbrev s_is_list : Stmt := top 30
theorem sc_is_list : FnScope ["value"] ["value"] (defScope s_is_list) :=
  ⟨rfl, rfl, rfl, by decide +kernel, rfl, by decide +kernel, by decide +kernel⟩
abbrev s_Zero_init : Stmt := inClass (top 32) 0
theorem sc_Zero_init : FnScope ["self", "change"] ["self", "change"] (defScope s_Zero_init) :=
  ⟨rfl, rfl, rfl, by decide +kernel, rfl, by decide +kernel, by decide +kernel⟩
abbrev s_Hangs_init : Stmt := inClass (top 33) 0
theorem sc_Hangs_init : FnScope ["self", "kinds", "powers", "groups", "changes"] ["self", "kinds", "powers", "groups", "changes"] (defScope s_Hangs_init) :=
  ⟨rfl, rfl, rfl, by decide +kernel, rfl, by decide +kernel, by decide +kernel⟩
abbrev s_told_exponents : Stmt := top 34
theorem sc_told_exponents : FnScope ["exponents", "row", "item"] ["exponents"] (defScope s_told_exponents) :=
  ⟨rfl, rfl, rfl, by decide +kernel, rfl, by decide +kernel, by decide +kernel⟩
abbrev s_told_result : Stmt := top 35
theorem sc_told_result : FnScope ["result", "many", "item"] ["result", "many"] (defScope s_told_result) :=
  ⟨rfl, rfl, rfl, by decide +kernel, rfl, by decide +kernel, by decide +kernel⟩
abbrev s_span_answer : Stmt := top 36
theorem sc_span_answer : FnScope ["letters", "result", "item"] ["letters", "result"] (defScope s_span_answer) :=
  ⟨rfl, rfl, rfl, by decide +kernel, rfl, by decide +kernel, by decide +kernel⟩
abbrev s_group_at : Stmt := top 37
theorem sc_group_at : FnScope ["basis", "j", "group"] ["basis", "j"] (defScope s_group_at) :=
  ⟨rfl, rfl, rfl, by decide +kernel, rfl, by decide +kernel, by decide +kernel⟩
abbrev s_change_at : Stmt := top 38
theorem sc_change_at : FnScope ["letters", "j", "right", "k"] ["letters", "j"] (defScope s_change_at) :=
  ⟨rfl, rfl, rfl, by decide +kernel, rfl, by decide +kernel, by decide +kernel⟩
abbrev s_hangs : Stmt := top 39
theorem sc_hangs : FnScope ["exponents", "result", "letters", "spot", "weights", "basis", "kinds", "powers", "groups", "changes", "j", "group"] ["exponents", "result"] (defScope s_hangs) :=
  ⟨rfl, rfl, rfl, by decide +kernel, rfl, by decide +kernel, by decide +kernel⟩
abbrev s_law_pen : Stmt := top 41
theorem sc_law_pen : FnScope ["_law_script", "_law_fold", "_law_cell"] ["_law_script"] (defScope s_law_pen) :=
  ⟨rfl, rfl, rfl, by decide +kernel, rfl, by decide +kernel, by decide +kernel⟩
abbrev s_law_draw : Stmt := top 42
theorem sc_law_draw : FnScope ["_law_pen_here", "_law_many", "_law_cell", "_law_digit", "_law_blend"] ["_law_pen_here", "_law_many"] (defScope s_law_draw) :=
  ⟨rfl, rfl, rfl, by decide +kernel, rfl, by decide +kernel, by decide +kernel⟩
abbrev s_law_pick : Stmt := top 43
theorem sc_law_pick : FnScope ["_law_pen_here", "_law_some"] ["_law_pen_here", "_law_some"] (defScope s_law_pick) :=
  ⟨rfl, rfl, rfl, by decide +kernel, rfl, by decide +kernel, by decide +kernel⟩
abbrev s_law_gcd : Stmt := top 44
theorem sc_law_gcd : FnScope ["_law_one", "_law_two", "_law_lap"] ["_law_one", "_law_two"] (defScope s_law_gcd) :=
  ⟨rfl, rfl, rfl, by decide +kernel, rfl, by decide +kernel, by decide +kernel⟩
abbrev s_law_q : Stmt := top 45
theorem sc_law_q : FnScope ["_law_top", "_law_bottom", "_law_by"] ["_law_top", "_law_bottom"] (defScope s_law_q) :=
  ⟨rfl, rfl, rfl, by decide +kernel, rfl, by decide +kernel, by decide +kernel⟩
abbrev s_law_is_whole : Stmt := top 46
theorem sc_law_is_whole : FnScope ["_law_value"] ["_law_value"] (defScope s_law_is_whole) :=
  ⟨rfl, rfl, rfl, by decide +kernel, rfl, by decide +kernel, by decide +kernel⟩
abbrev s_law_is_ratio : Stmt := top 47
theorem sc_law_is_ratio : FnScope ["_law_value"] ["_law_value"] (defScope s_law_is_ratio) :=
  ⟨rfl, rfl, rfl, by decide +kernel, rfl, by decide +kernel, by decide +kernel⟩
abbrev s_law_turned : Stmt := top 48
theorem sc_law_turned : FnScope ["_law_rows", "_law_row", "_law_k"] ["_law_rows"] (defScope s_law_turned) :=
  ⟨rfl, rfl, rfl, by decide +kernel, rfl, by decide +kernel, by decide +kernel⟩
abbrev s_law_inner : Stmt := top 49
theorem sc_law_inner : FnScope ["_law_row", "_law_column", "_law_one", "_law_two"] ["_law_row", "_law_column"] (defScope s_law_inner) :=
  ⟨rfl, rfl, rfl, by decide +kernel, rfl, by decide +kernel, by decide +kernel⟩
abbrev s_law_rank : Stmt := top 50
theorem sc_law_rank : FnScope ["_law_rows", "_law_left", "_law_last", "_law_place", "_law_row", "_law_k", "_law_found", "_law_j", "_law_lead", "_law_by", "_law_one", "_law_two"] ["_law_rows"] (defScope s_law_rank) :=
  ⟨rfl, rfl, rfl, by decide +kernel, rfl, by decide +kernel, by decide +kernel⟩
abbrev s_law_matrix : Stmt := top 51
theorem sc_law_matrix : FnScope ["_law_pen_here", "_law_many", "_law_wide", "_law_most", "_law_rows", "_law_k", "_law_row", "_law_j", "_law_one", "_law_by", "_law_other", "_law_a", "_law_b"] ["_law_pen_here", "_law_many", "_law_wide", "_law_most"] (defScope s_law_matrix) :=
  ⟨rfl, rfl, rfl, by decide +kernel, rfl, by decide +kernel, by decide +kernel⟩
abbrev s_law_exponents : Stmt := top 52
theorem sc_law_exponents : FnScope ["_law_pen_here", "_law_many", "_law_wide", "_law_most", "_law_row"] ["_law_pen_here", "_law_many", "_law_wide", "_law_most"] (defScope s_law_exponents) :=
  ⟨rfl, rfl, rfl, by decide +kernel, rfl, by decide +kernel, by decide +kernel⟩
abbrev s_law_unit_of : Stmt := top 53
theorem sc_law_unit_of : FnScope ["_law_exponents_here", "_law_powers", "_law_column"] ["_law_exponents_here", "_law_powers"] (defScope s_law_unit_of) :=
  ⟨rfl, rfl, rfl, by decide +kernel, rfl, by decide +kernel, by decide +kernel⟩
abbrev s_law_is_group : Stmt := top 54
theorem sc_law_is_group : FnScope ["_law_value", "_law_exponents_here", "_law_one"] ["_law_value", "_law_exponents_here"] (defScope s_law_is_group) :=
  ⟨rfl, rfl, rfl, by decide +kernel, rfl, by decide +kernel, by decide +kernel⟩
abbrev s_law_is_change : Stmt := top 55
theorem sc_law_is_change : FnScope ["_law_value", "_law_wide", "_law_one"] ["_law_value", "_law_wide"] (defScope s_law_is_change) :=
  ⟨rfl, rfl, rfl, by decide +kernel, rfl, by decide +kernel, by decide +kernel⟩
abbrev s_law_in_span : Stmt := top 56
theorem sc_law_in_span : FnScope ["_law_exponents_here", "_law_row", "_law_rows", "_law_one"] ["_law_exponents_here", "_law_row"] (defScope s_law_in_span) :=
  ⟨rfl, rfl, rfl, by decide +kernel, rfl, by decide +kernel, by decide +kernel⟩
abbrev s_law_letter_right : Stmt := top 57
theorem sc_law_letter_right : FnScope ["_law_exponents_here", "_law_result", "_law_told", "_law_j", "_law_kind", "_law_power", "_law_group", "_law_change", "_law_k", "_law_due"] ["_law_exponents_here", "_law_result", "_law_told", "_law_j"] (defScope s_law_letter_right) :=
  ⟨rfl, rfl, rfl, by decide +kernel, rfl, by decide +kernel, by decide +kernel⟩
abbrev s_law_right : Stmt := top 58
theorem sc_law_right : FnScope ["_law_exponents_here", "_law_result", "_law_told", "_law_row", "_law_j"] ["_law_exponents_here", "_law_result", "_law_told"] (defScope s_law_right) :=
  ⟨rfl, rfl, rfl, by decide +kernel, rfl, by decide +kernel, by decide +kernel⟩
abbrev s_law : Stmt := top 59
theorem sc_law : FnScope ["_law_script", "_law_pen_here", "_law_turn", "_law_many", "_law_wide", "_law_exponents_here", "_law_result", "_law_k", "_law_way", "_law_one", "_law_passed", "_law_row", "_law_told", "_law_none", "_law_hung", "_law_made"] ["_law_script"] (defScope s_law) :=
  ⟨rfl, rfl, rfl, by decide +kernel, rfl, by decide +kernel, by decide +kernel⟩
/-- the built-in names that the text uses -/
structure Bn (mg : Str → Option Value) : Prop where
  len : mg "len" = none
  range : mg "range" = none
  zip : mg "zip" = none
  abs : mg "abs" = none
  min : mg "min" = none
  any : mg "any" = none
  all : mg "all" = none
  sum : mg "sum" = none
  isinstance : mg "isinstance" = none
  int : mg "int" = none
  bool : mg "bool" = none
  list : mg "list" = none
  tuple : mg "tuple" = none
/-- a def of the text without defaults -/
abbrev Df (K : PySem.W.Frag) (x q : Str) (st : Stmt) (f : Addr) (fd : FuncData) : Prop := FunD K x q (defArgs st) (defBody st) (defScope st) [] [] f fd
theorem body_ok {P : Program} {w : World} {K : PySem.W.Frag} {mg : Str → Option Value} {base : Heap} {x q : Str} {st : Stmt} {f : Addr} {fd : FuncData} {N ps : List Str} {k : Nat} {sp : Sp}
    (F : Df K x q st f fd) (S : FnScope N ps (defScope st)) (len : ∀ vs H Q E, sp vs H Q E → vs.length = ps.length)
    (hb : ∀ (cdv : Value) (A : Around) (outer : List Env) (s : Shared) (H : Hp) (vs : List V) (Q : VK) (E : XK), Room k (A.deeper (envOfC q (defScope st) s.heap.objs.size f cdv)) → sp vs H Q E →
      ∃ t, PSs (cxOf CX0 P w K mg base N q (defScope st) f cdv A outer s H E).nox (defBody st) t ∧ t { nx := fun _ H' => Q .non H', rt := Q } (start N vs) H) :
    FnOk P w K mg base CX0 (k + 1) f fd ps sp :=
  F.ok S len fun cdv A outer s H vs Q E hr hs => by
    obtain ⟨t, h, q⟩ := hb cdv A outer s H vs Q E hr hs
    exact ⟨t, h.nox, q⟩
end K51W

set_option maxHeartbeats 1000000
/-! zip of a list or a tuple with a list or a tuple. -/
namespace K51W
open PySem PySem.Spec PyProof.Rows L2
/-- a list's or a tuple's iterator -/
def NI (t : Bool) (h : Heap) (i l : Addr) (k : Nat) : Prop := ∃ o, h.get? i = some o ∧ o.cls = .type (if t = true then "tuple_iterator" else "list_iterator") ∧ o.data = .fields #[.ref l, .int k 0]
def NS (t : Bool) (h : Heap) (l : Addr) (xs : Array Value) : Prop := ∃ o, h.get? l = some o ∧ o.cls = .type (if t = true then "tuple" else "list") ∧ ∃ n, o.data = .seq xs n
theorem NI.on {t : Bool} {h h' : Heap} {i l : Addr} {k : Nat} (q : NI t h i l k) (e : ∀ o, h.get? i = some o → h'.get? i = some o) : NI t h' i l k := let ⟨o, g, r⟩ := q; ⟨o, e o g, r⟩
theorem NS.on {t : Bool} {h h' : Heap} {l : Addr} {xs : Array Value} (q : NS t h l xs) (e : ∀ o, h.get? l = some o → h'.get? l = some o) : NS t h' l xs := let ⟨o, g, r⟩ := q; ⟨o, e o g, r⟩
section
variable {prog : Program} {w : World} {A : Around} {E : Value → Shared → Prop} {s : Shared}
theorem nx_item {t : Bool} {i l : Addr} {k : Nat} {xs : Array Value} {x : Value} {Q : Value → Shared → Prop} (hi : NI t s.heap i l k) (hl : NS t s.heap l xs) (hx : xs[k]? = some x)
    (q : ∀ g, NI t g i l (k + 1) → Heap.SameBut i s.heap g → Q x { s with heap := g }) : wpAny (model prog w) A (Builtin.SmallTypes.nextOf (.ref i)) Q E s := by
  cases t with
  | true => exact RZ.nextOf_tuple_item (show s.heap.IsTupleIter i l k from hi) (show s.heap.IsTuple l xs from hl) hx q
  | false => exact wpAny_nextOf_list_item (show s.heap.IsListIter i l k from hi) (show s.heap.IsList l xs from hl) hx q
theorem nx_end {t : Bool} {i l : Addr} {k : Nat} {xs : Array Value} {Q : Value → Shared → Prop} (hh : A.handled = none) (hi : NI t s.heap i l k) (hl : NS t s.heap l xs) (hx : xs[k]? = none)
    (q : ∀ g e, Heap.ExtBut i s.heap g → (∃ o, g.get? e = some o ∧ o.cls = .type "StopIteration") → E (.ref e) { s with heap := g }) : wpAny (model prog w) A (Builtin.SmallTypes.nextOf (.ref i)) Q E s := by
  cases t with
  | true => exact RZ.nextOf_tuple_end hh (show s.heap.IsTupleIter i l k from hi) (show s.heap.IsTuple l xs from hl) hx q
  | false => exact wpAny_nextOf_list_end hh (show s.heap.IsListIter i l k from hi) (show s.heap.IsList l xs from hl) hx q
/-- what stays but for the four that a turn changes -/
def But4 (z TO i j : Addr) (h g : Heap) : Prop := ∀ c o, c ≠ z → c ≠ TO → c ≠ i → c ≠ j → h.get? c = some o → g.get? c = some o
/-- the head of zip's __next__: up to the two inner ones -/
theorem zm_item {t u : Bool} {z TI TO i j l m : Addr} {k k' : Nat} {xs ys : Array Value} {x y a b : Value} {Q : Value → Shared → Prop} (D : ZipApart z TI TO i j l m)
    (gz : IsZip s.heap z TI TO .none) (gI : IsPair s.heap TI (.ref i) (.ref j)) (gO : IsPair s.heap TO a b) (gi : NI t s.heap i l k) (gj : NI u s.heap j m k') (gl : NS t s.heap l xs) (gm : NS u s.heap m ys) (ex : xs[k]? = some x) (ey : ys[k']? = some y)
    (q : ∀ g, IsZip g z TI TO (rawInt s.heap.objs.size) → IsPair g TO x y → NI t g i l (k + 1) → NI u g j m (k' + 1) → IsPair g s.heap.objs.size x y → g.objs.size = s.heap.objs.size + 1 → But4 z TO i j s.heap g → Q (.ref s.heap.objs.size) { s with heap := g }) :
    wpAny (model prog w) A (Builtin.«zip.__next__» ⟨[.ref z], []⟩) (fun fin r => ∃ v, fin = .done (.ret v) ∧ Q v r) E s := by
  show wpAny (model prog w) A (field (.ref z) 2 >>= _) _ _ _
  refine wpAny_bind (wpAny_field gz rfl (x := .bool false) rfl ?_)
  show wpAny (model prog w) A (field (.ref z) 3 >>= _) _ _ _
  refine wpAny_bind (wpAny_field gz rfl (x := .ref TI) rfl (wpAny_bind (wpAny_seqItems gI rfl ?_)))
  show wpAny (model prog w) A (Builtin.SmallTypes.ownedTupleIsFree (.ref z) >>= _) _ _ _
  unfold Builtin.SmallTypes.ownedTupleIsFree
  refine wpAny_bind (wpAny_bind (wpAny_field gz rfl (x := .none) rfl (wpAny_pure ?_)))
  simp only [if_true]
  refine wpAny_bind (wpAny_rule (wpAny_bind (wpAny_field gz rfl (x := .ref TO) rfl (wpAny_bind (wpAny_setField_rec gz (by simp) fun g1 z1 b1 => ?_)))))
  have z1 : IsZip g1 z TI TO .ellipsis := z1
  simp only [List.zipIdx_cons, List.zipIdx_nil, List.forIn_cons, List.forIn_nil]
  refine wpAny_bind (wpAny_bind (wpAny_bind (wpAny_onRaise ?_)))
  have c1 : ∀ c o, c ≠ z → s.heap.get? c = some o → g1.get? c = some o := fun c o n e => b1.extBut c o n e
  show wpAny (model prog w) A (Builtin.SmallTypes.nextOf (.ref i) >>= _) _ _ _
  refine wpAny_bind (nx_item (gi.on fun o => c1 i o D.i1z) (gl.on fun o => c1 l o D.l1z) ex fun g2 i2 b2 => wpAny_pure ?_)
  have c2 : ∀ c o, c ≠ z → c ≠ i → s.heap.get? c = some o → g2.get? c = some o := fun c o n n2 e => b2.extBut c o n2 (c1 c o n e)
  have o2 : IsPair g2 TO a b := c2 TO _ D.TOz D.TOi1 gO
  refine wpAny_bind (wpAny_seqItems o2 rfl (wpAny_bind (wpAny_updateSeq_pair o2 fun g3 o3 b3 => wpAny_bind (wpAny_letGo (wpAny_pure ?_)))))
  have o3 : IsPair g3 TO x b := o3
  refine wpAny_bind (wpAny_bind (wpAny_onRaise ?_))
  have c3 : ∀ c o, c ≠ z → c ≠ i → c ≠ TO → s.heap.get? c = some o → g3.get? c = some o := fun c o n n2 n3 e => b3.extBut c o n3 (c2 c o n n2 e)
  show wpAny (model prog w) A (Builtin.SmallTypes.nextOf (.ref j) >>= _) _ _ _
  refine wpAny_bind (nx_item (gj.on fun o => c3 j o D.i2z D.i12.symm D.TOi2.symm) (gm.on fun o => c3 m o D.l2z D.l2i1 D.l2TO) ey fun g4 j4 b4 => wpAny_pure ?_)
  have o4 : IsPair g4 TO x b := b4.extBut TO _ D.TOi2 o3
  refine wpAny_bind (wpAny_seqItems o4 rfl (wpAny_bind (wpAny_updateSeq_pair o4 fun g5 o5 b5 => wpAny_bind (wpAny_letGo (wpAny_pure (wpAny_pure ?_))))))
  have o5 : IsPair g5 TO x y := o5
  have size5 : g5.objs.size = s.heap.objs.size := by rw [b5.1, b4.1, b3.1, b2.1, b1.1]
  have z5 : IsZip g5 z TI TO .ellipsis := b5.extBut z _ D.TOz.symm (b4.extBut z _ D.i2z.symm (b3.extBut z _ D.TOz.symm (b2.extBut z _ D.i1z.symm z1)))
  have i5 : NI t g5 i l (k + 1) := i2.on fun o e => b5.extBut i o D.TOi1.symm (b4.extBut i o D.i12 (b3.extBut i o D.TOi1.symm e))
  have j5 : NI u g5 j m (k' + 1) := j4.on fun o e => b5.extBut j o D.TOi2.symm e
  have k5 : But4 z TO i j s.heap g5 := fun c o n1 n2 n3 n4 e => b5.extBut c o n2 (b4.extBut c o n4 (c3 c o n1 n3 n2 e))
  refine wpAny_bind (wpAny_seqItems o5 rfl (wpAny_bind (wpAny_newTuple ?_)))
  show wpAny (model prog w) A (Builtin.SmallTypes.ownedTupleHandOut (.ref z) (.ref g5.objs.size) >>= _) _ _ _
  unfold Builtin.SmallTypes.ownedTupleHandOut
  have z6 : IsZip (g5.push { cls := .type "tuple", data := .seq #[x, y] }) z TI TO .ellipsis := Heap.get?_push_of_some _ z5
  refine wpAny_bind (wpAny_bind (wpAny_setField_rec z6 (by simp) fun g7 z7 b7 => ?_))
  have z7 : IsZip g7 z TI TO (rawInt g5.objs.size) := z7
  refine wpAny_setField_rec z7 (by simp) fun g8 z8 b8 => wpAny_pure ⟨_, rfl, ?_⟩
  have z8 : IsZip g8 z TI TO (rawInt g5.objs.size) := z8
  have old : ∀ c o, c ≠ z → g5.get? c = some o → g8.get? c = some o := fun c o n e => b8.extBut c o n (b7.extBut c o n (Heap.get?_push_of_some _ e))
  have nw8 : IsPair g8 g5.objs.size x y := b8.extBut _ _ (Nat.ne_of_gt (Heap.lt_size z5)) (b7.extBut _ _ (Nat.ne_of_gt (Heap.lt_size z5)) (Heap.get?_push_size _ rfl))
  have size8 : g8.objs.size = g5.objs.size + 1 := by rw [b8.1, b7.1, Heap.size_push]
  show Q (.ref g5.objs.size) { s with heap := g8 }
  rw [size5] at z8 nw8 size8 ⊢
  exact q g8 z8 (old TO _ D.TOz o5) (i5.on fun o => old i o D.i1z) (j5.on fun o => old j o D.i2z) nw8 size8 fun c o n1 n2 n3 n4 e => old c o n1 (k5 c o n1 n2 n3 n4 e)
theorem zm_end {t u : Bool} {z TI TO i j l m : Addr} {k k' : Nat} {xs ys : Array Value} {a b : Value} {Q : Fin → Shared → Prop} (hh : A.handled = none) (D : ZipApart z TI TO i j l m)
    (gz : IsZip s.heap z TI TO .none) (gI : IsPair s.heap TI (.ref i) (.ref j)) (gO : IsPair s.heap TO a b) (gi : NI t s.heap i l k) (gj : NI u s.heap j m k') (gl : NS t s.heap l xs) (gm : NS u s.heap m ys) (en : xs[k]? = none ∨ ys[k']? = none)
    (q : ∀ g e, But4 z TO i j s.heap g → (∃ o, g.get? e = some o ∧ o.cls = .type "StopIteration") → E (.ref e) { s with heap := g }) :
    wpAny (model prog w) A (Builtin.«zip.__next__» ⟨[.ref z], []⟩) Q E s := by
  show wpAny (model prog w) A (field (.ref z) 2 >>= _) _ _ _
  refine wpAny_bind (wpAny_field gz rfl (x := .bool false) rfl ?_)
  show wpAny (model prog w) A (field (.ref z) 3 >>= _) _ _ _
  refine wpAny_bind (wpAny_field gz rfl (x := .ref TI) rfl (wpAny_bind (wpAny_seqItems gI rfl ?_)))
  show wpAny (model prog w) A (Builtin.SmallTypes.ownedTupleIsFree (.ref z) >>= _) _ _ _
  unfold Builtin.SmallTypes.ownedTupleIsFree
  refine wpAny_bind (wpAny_bind (wpAny_field gz rfl (x := .none) rfl (wpAny_pure ?_)))
  simp only [if_true]
  refine wpAny_bind (wpAny_rule (wpAny_bind (wpAny_field gz rfl (x := .ref TO) rfl (wpAny_bind (wpAny_setField_rec gz (by simp) fun g1 z1 b1 => ?_)))))
  have z1 : IsZip g1 z TI TO .ellipsis := z1
  simp only [List.zipIdx_cons, List.zipIdx_nil, List.forIn_cons, List.forIn_nil]
  refine wpAny_bind (wpAny_bind (wpAny_bind (wpAny_onRaise ?_)))
  have c1 : ∀ c o, c ≠ z → s.heap.get? c = some o → g1.get? c = some o := fun c o n e => b1.extBut c o n e
  show wpAny (model prog w) A (Builtin.SmallTypes.nextOf (.ref i) >>= _) _ _ _
  cases ex : xs[k]? with
  | none =>
    refine wpAny_bind (nx_end hh (gi.on fun o => c1 i o D.i1z) (gl.on fun o => c1 l o D.l1z) ex fun g2 e b2 ⟨oe, e1, e2⟩ => ?_)
    have z2 : IsZip g2 z TI TO .ellipsis := b2 z _ D.i1z.symm z1
    have ne : e ≠ z := fun r => by rw [r, z2] at e1; cases e1; simp at e2
    exact wpAny_setField_rec z2 (by simp) fun g3 _ b3 => q g3 e (fun c o n1 _ n3 _ r => b3.extBut c o n1 (b2 c o n3 (c1 c o n1 r))) ⟨oe, b3.extBut e _ ne e1, e2⟩
  | some x =>
    have ey : ys[k']? = none := en.resolve_left fun r => by rw [ex] at r; cases r
    refine wpAny_bind (nx_item (gi.on fun o => c1 i o D.i1z) (gl.on fun o => c1 l o D.l1z) ex fun g2 i2 b2 => wpAny_pure ?_)
    have c2 : ∀ c o, c ≠ z → c ≠ i → s.heap.get? c = some o → g2.get? c = some o := fun c o n n2 e => b2.extBut c o n2 (c1 c o n e)
    have o2 : IsPair g2 TO a b := c2 TO _ D.TOz D.TOi1 gO
    refine wpAny_bind (wpAny_seqItems o2 rfl (wpAny_bind (wpAny_updateSeq_pair o2 fun g3 o3 b3 => wpAny_bind (wpAny_letGo (wpAny_pure ?_)))))
    refine wpAny_bind (wpAny_bind (wpAny_onRaise ?_))
    have c3 : ∀ c o, c ≠ z → c ≠ i → c ≠ TO → s.heap.get? c = some o → g3.get? c = some o := fun c o n n2 n3 e => b3.extBut c o n3 (c2 c o n n2 e)
    show wpAny (model prog w) A (Builtin.SmallTypes.nextOf (.ref j) >>= _) _ _ _
    refine wpAny_bind (nx_end hh (gj.on fun o => c3 j o D.i2z D.i12.symm D.TOi2.symm) (gm.on fun o => c3 m o D.l2z D.l2i1 D.l2TO) ey fun g4 e b4 ⟨oe, e1, e2⟩ => ?_)
    have z4 : IsZip g4 z TI TO .ellipsis := b4 z _ D.i2z.symm (b3.extBut z _ D.TOz.symm (b2.extBut z _ D.i1z.symm z1))
    have ne : e ≠ z := fun r => by rw [r, z4] at e1; cases e1; simp at e2
    exact wpAny_setField_rec z4 (by simp) fun g5 _ b5 => q g5 e (fun c o n1 n2 n3 n4 r => b5.extBut c o n1 (b4 c o n4 (c3 c o n1 n3 n2 r))) ⟨oe, b5.extBut e _ ne e1, e2⟩
theorem zm_next {t u : Bool} {z TI TO i j l m : Addr} {k k' : Nat} {xs ys : Array Value} {x y a b : Value} {Q : Option Value → Shared → Prop} (D : ZipApart z TI TO i j l m)
    (gz : IsZip s.heap z TI TO .none) (gI : IsPair s.heap TI (.ref i) (.ref j)) (gO : IsPair s.heap TO a b) (gi : NI t s.heap i l k) (gj : NI u s.heap j m k') (gl : NS t s.heap l xs) (gm : NS u s.heap m ys) (ex : xs[k]? = some x) (ey : ys[k']? = some y)
    (q : ∀ g, IsZip g z TI TO (rawInt s.heap.objs.size) → IsPair g TO x y → NI t g i l (k + 1) → NI u g j m (k' + 1) → IsPair g s.heap.objs.size x y → g.objs.size = s.heap.objs.size + 1 → But4 z TO i j s.heap g → Q (some (.ref s.heap.objs.size)) { s with heap := g }) :
    wpAny (model prog w) A (pyNext (.ref z)) Q E s := by
  have ty : s.TypeIs (.ref z) "zip" := ⟨_, gz, rfl⟩
  unfold pyNext
  refine wpAny_bind (wpAny_attempt (wpAny_callSpecial?_slot (name := Str.ofString "__next__") ty F.slot_zip_next (wpAny_call_entry F.slot_zip_next ty F.entry_zip_next ?_ (F.args_zip_next_1 _))))
  exact zm_item D gz gI gO gi gj gl gm ex ey fun g h1 h2 h3 h4 h5 h6 h7 => wpAny_pure (q g h1 h2 h3 h4 h5 h6 h7)
theorem zm_last {t u : Bool} {z TI TO i j l m : Addr} {k k' : Nat} {xs ys : Array Value} {a b : Value} {Q : Option Value → Shared → Prop} (hh : A.handled = none) (D : ZipApart z TI TO i j l m)
    (gz : IsZip s.heap z TI TO .none) (gI : IsPair s.heap TI (.ref i) (.ref j)) (gO : IsPair s.heap TO a b) (gi : NI t s.heap i l k) (gj : NI u s.heap j m k') (gl : NS t s.heap l xs) (gm : NS u s.heap m ys) (en : xs[k]? = none ∨ ys[k']? = none)
    (q : ∀ g, But4 z TO i j s.heap g → Q none { s with heap := g }) : wpAny (model prog w) A (pyNext (.ref z)) Q E s := by
  have ty : s.TypeIs (.ref z) "zip" := ⟨_, gz, rfl⟩
  unfold pyNext
  refine wpAny_bind (wpAny_attempt (wpAny_callSpecial?_slot (name := Str.ofString "__next__") ty F.slot_zip_next (wpAny_call_entry F.slot_zip_next ty F.entry_zip_next ?_ (F.args_zip_next_1 _))))
  refine zm_end hh D gz gI gO gi gj gl gm en fun g e h1 h2 => ?_
  have ty2 : Shared.TypeIs { s with heap := g } (.ref e) "StopIteration" := h2
  refine wpAny_bind (wpAny_isInstance (b := true) ty2 isSubtype_stop ?_)
  exact wpAny_pure (q g h1)
end
/-! ### its making, over a tuple and a list -/
def zm1 (h : Heap) (l : Addr) : Heap := h.push { cls := .type "tuple_iterator", data := .fields #[.ref l, .int 0 0] }
def zm2 (h : Heap) (l m : Addr) : Heap := (zm1 h l).push { cls := .type "list_iterator", data := .fields #[.ref m, .int 0 0] }
def zm3 (h : Heap) (l m : Addr) : Heap := (zm2 h l m).push { cls := .type "tuple", data := .seq #[.ref h.objs.size, .ref (zm1 h l).objs.size] }
def zm4 (h : Heap) (l m : Addr) : Heap := (zm3 h l m).push { cls := .type "tuple", data := .seq #[.none, .none] }
def zm5 (h : Heap) (l m : Addr) : Heap := (zm4 h l m).push { cls := .type "zip", data := .fields #[.none, .bool false, .bool false, .ref (zm2 h l m).objs.size, .ref (zm3 h l m).objs.size] }
theorem zm_new (l m : Addr) (xs ys : Array Value) : Meets (Builtin.«zip.__new__» ⟨[.type "zip", .ref l, .ref m], []⟩) (fun _ R s => s.heap.IsTuple l xs ∧ s.heap.IsList m ys ∧
    R (.ok (.ret (.ref (zm4 s.heap l m).objs.size))) { s with heap := zm5 s.heap l m }) :=
  .of_wp fun prog w A R s h => by
    obtain ⟨hp, g, d, tk, os⟩ := s
    obtain ⟨e1, e2, h⟩ := h
    have hsub := sub_zip
    have k1 : Heap.IsTuple (Shared.heap ⟨hp, g, d, tk, os⟩) l xs := e1
    have k2 : Heap.IsList (Shared.heap ⟨hp.push { cls := .type "tuple_iterator", data := .fields #[.ref l, .int 0 0] }, g, d, tk, os⟩) m ys := Heap.IsList.push e2 _
    wp_walk using wpAny_pyIter_tuple k1, wpAny_pyIter_list k2
    exact ⟨_, rfl, h⟩
section
variable {prog : Program} {w : World} {A : Around} {E : Value → Shared → Prop} {s : Shared}
theorem zm_call {l m : Addr} {xs ys : Array Value} {Q : Value → Shared → Prop} (hl : s.heap.IsTuple l xs) (hm : s.heap.IsList m ys)
    (q : ∀ g, IsZip g (s.heap.objs.size + 4) (s.heap.objs.size + 2) (s.heap.objs.size + 3) .none → IsPair g (s.heap.objs.size + 2) (.ref s.heap.objs.size) (.ref (s.heap.objs.size + 1)) → IsPair g (s.heap.objs.size + 3) .none .none →
      NI true g s.heap.objs.size l 0 → NI false g (s.heap.objs.size + 1) m 0 → (∀ c o, s.heap.get? c = some o → g.get? c = some o) → Q (.ref (s.heap.objs.size + 4)) { s with heap := g }) :
    wpAny (model prog w) A (call (.type "zip") [.ref l, .ref m]) Q E s := by
  refine callType_new F.called_zip (by decide) (F.typeCall_zip_2 _ _) (F.newCall_zip_2 _ _) (fun o => F.args_object_init_3 o _ _) F.entry_zip_new (zm_new l m xs ys) ⟨hl, hm, ?_⟩
  have n1 : (zm1 s.heap l).objs.size = s.heap.objs.size + 1 := Heap.size_push _ _
  have n2 : (zm2 s.heap l m).objs.size = s.heap.objs.size + 2 := (Heap.size_push _ _).trans (congrArg (· + 1) n1)
  have n3 : (zm3 s.heap l m).objs.size = s.heap.objs.size + 3 := (Heap.size_push _ _).trans (congrArg (· + 1) n2)
  have n4 : (zm4 s.heap l m).objs.size = s.heap.objs.size + 4 := (Heap.size_push _ _).trans (congrArg (· + 1) n3)
  have p1 : (zm5 s.heap l m).get? s.heap.objs.size = some { cls := .type "tuple_iterator", data := .fields #[.ref l, .int 0 0] } := Heap.get?_push_of_some _ (Heap.get?_push_of_some _ (Heap.get?_push_of_some _ (Heap.get?_push_of_some _ (Heap.get?_push_size _ rfl))))
  have p2 : (zm5 s.heap l m).get? (zm1 s.heap l).objs.size = some { cls := .type "list_iterator", data := .fields #[.ref m, .int 0 0] } := Heap.get?_push_of_some _ (Heap.get?_push_of_some _ (Heap.get?_push_of_some _ (Heap.get?_push_size _ rfl)))
  have p3 : (zm5 s.heap l m).get? (zm2 s.heap l m).objs.size = some { cls := .type "tuple", data := .seq #[.ref s.heap.objs.size, .ref (zm1 s.heap l).objs.size] } := Heap.get?_push_of_some _ (Heap.get?_push_of_some _ (Heap.get?_push_size _ rfl))
  have p4 : (zm5 s.heap l m).get? (zm3 s.heap l m).objs.size = some { cls := .type "tuple", data := .seq #[.none, .none] } := Heap.get?_push_of_some _ (Heap.get?_push_size _ rfl)
  have p5 : (zm5 s.heap l m).get? (zm4 s.heap l m).objs.size = some { cls := .type "zip", data := .fields #[.none, .bool false, .bool false, .ref (zm2 s.heap l m).objs.size, .ref (zm3 s.heap l m).objs.size] } := Heap.get?_push_size _ rfl
  rw [n1] at p2
  rw [n1, n2] at p3
  rw [n3] at p4
  rw [n2, n3, n4] at p5
  show (∃ o, (zm5 s.heap l m).get? (zm4 s.heap l m).objs.size = some o ∧ _) ∧ _
  rw [n4]
  exact ⟨⟨_, p5, rfl⟩, q _ p5 p3 p4 ⟨_, p1, rfl, rfl⟩ ⟨_, p2, rfl, rfl⟩ fun c o r => Heap.get?_push_of_some _ (Heap.get?_push_of_some _ (Heap.get?_push_of_some _ (Heap.get?_push_of_some _ (Heap.get?_push_of_some _ r))))⟩
end
/-- the tuple at a and the list at b as they stand at each turn, the items in new pairs -/
def ItM (K : PySem.W.Frag) (a b : Addr) : It :=
  ⟨fun k H => ∃ (xs ys : List V) (x y : V), SqT K H a xs ∧ SqL K H b ys ∧ xs[k]? = some x ∧ ys[k]? = some y,
    fun k H v H' => ∃ T x y, v = .ref T ∧ H T = none ∧ H' = upd H T (.tup [x, y]) ∧ (∀ xs, SqT K H a xs → xs[k]? = some x) ∧ ∀ ys, SqL K H b ys → ys[k]? = some y,
    fun k H => ∃ xs ys : List V, SqT K H a xs ∧ SqL K H b ys ∧ (xs.length ≤ k ∨ ys.length ≤ k)⟩
/-- the state of zip's parts before turn k -/
structure ZSt (z TI TO i j a b : Addr) (k : Nat) (h : Heap) : Prop where
  z : IsZip h z TI TO .none
  I : IsPair h TI (.ref i) (.ref j)
  O : ∃ x y, IsPair h TO x y
  i : NI true h i a k
  j : NI false h j b k
theorem ZSt.lt {z TI TO i j a b : Addr} {k : Nat} {h : Heap} (st : ZSt z TI TO i j a b k h) {c : Addr} (hc : c ∈ [z, TI, TO, i, j]) : c < h.objs.size := by
  obtain ⟨x, y, o⟩ := st.O
  obtain ⟨_, e1, _⟩ := st.i
  obtain ⟨_, e2, _⟩ := st.j
  simp only [List.mem_cons, List.not_mem_nil, or_false] at hc
  rcases hc with rfl | rfl | rfl | rfl | rfl
  · exact Heap.lt_size st.z
  · exact Heap.lt_size st.I
  · exact Heap.lt_size o
  · exact Heap.lt_size e1
  · exact Heap.lt_size e2
theorem But4.out {z TI TO i j : Addr} {h g : Heap} (q : But4 z TO i j h g) {c : Addr} {o : Obj} (hc : c ∉ [z, TI, TO, i, j]) (e : h.get? c = some o) : g.get? c = some o := by
  simp only [List.mem_cons, List.not_mem_nil, or_false, not_or] at hc
  exact q c o hc.1 hc.2.2.1 hc.2.2.2.1 hc.2.2.2.2 e
theorem turn_m {P : Program} {w : World} {K : PySem.W.Frag} {es : List Expr} {kk : Nat} {tp : Pos} {a b z TI TO i j : Addr} (D : ZipApart z TI TO i j a b) : Turn P w K (.Tuple es kk tp) (ItM K a b) [z, TI, TO, i, j] z (fun k h => ZSt z TI TO i j a b k h) where
  mem := List.mem_cons_self ..
  obj := fun k h st c hc => by
    obtain ⟨hz, hI, ⟨x, y, hO⟩, ⟨o1, e1, _, d1⟩, ⟨o2, e2, _, d2⟩⟩ := st
    simp only [List.mem_cons, List.not_mem_nil, or_false] at hc
    rcases hc with rfl | rfl | rfl | rfl | rfl
    · exact ⟨_, hz, fun _ r => nomatch r⟩
    · exact ⟨_, hI, fun _ r => nomatch r⟩
    · exact ⟨_, hO, fun _ r => nomatch r⟩
    · exact ⟨o1, e1, fun _ r => by rw [d1] at r; cases r⟩
    · exact ⟨o2, e2, fun _ r => by rw [d2] at r; cases r⟩
  keep := fun k h g st q => by
    obtain ⟨hz, hI, ⟨x, y, hO⟩, h1, h2⟩ := st
    exact ⟨q z (by simp) _ hz, q TI (by simp) _ hI, ⟨x, y, q TO (by simp) _ hO⟩, h1.on fun o => q i (by simp) o, h2.on fun o => q j (by simp) o⟩
  item := by
    intro X hP hw hK hc k pins s σ H E I hf st hg
    subst hP hw hK
    obtain ⟨x0, y0, hO⟩ := st.O
    obtain ⟨xs, ys, x, y, qx, qy, hx, hy⟩ := hg
    obtain ⟨its, rv, p, _⟩ := I.tuple qx
    obtain ⟨its2, rv2, p2, _⟩ := I.list qy
    obtain ⟨u, hu, ru⟩ := rv.get hx
    obtain ⟨v, hv, rw_⟩ := rv2.get hy
    have zl : z < s.heap.objs.size := Heap.lt_size st.z
    refine zm_next (t := true) (u := false) D st.z st.I hO st.i st.j (show s.heap.IsTuple a its.toArray from p) p2.isList (x := u) (y := v) (by simpa using hu) (by simpa using hv) fun g r1 r2 r3 r4 r5 r6 r7 => ⟨_, rfl, wpAny_letOwnedTupleGo_zip (s := { s with heap := g }) r1 fun g2 z2 sb => ?_⟩
    have hT : g2.get? s.heap.objs.size = some { cls := .type "tuple", data := .seq #[u, v] } := (sb.2 _ (Nat.ne_of_gt zl)).trans r5
    have ok : ObjOk X.prog X.w (upd H s.heap.objs.size (.tup [x, y])) g2 s.heap.objs.size (.tup [x, y]) := ⟨by show 2 ≤ sizeLine; decide, [u, v], .cons ru (.cons rw_ .nil), ⟨_, hT, rfl, _, rfl⟩⟩
    have J : Inv X pins σ (upd H s.heap.objs.size (.tup [x, y])) { s with heap := g2 } :=
      I.turnedNew (t' := s.toks) (ch := [z, TI, TO, i, j]) (fun c o hb e => (sb.2 c fun n => hb (by rw [n]; exact List.mem_cons_self ..)).trans (r7.out hb e)) hf (Nat.le_refl _) ok
    refine ⟨.ref s.heap.objs.size, _, J, rfl, ⟨_, x, y, rfl, I.hok.fresh (Nat.le_refl _), rfl, fun l hl => by rw [I.tuple_inj hl qx]; exact hx, fun l hl => by rw [I.list_inj hl qy]; exact hy⟩,
      ⟨z2, (sb.2 _ D.TIz).trans (r7 _ _ D.TIz D.TITO D.TIi1 D.TIi2 st.I), ⟨u, v, (sb.2 _ D.TOz).trans r2⟩, r3.on fun o e => (sb.2 _ D.i1z).trans e, r4.on fun o e => (sb.2 _ D.i2z).trans e⟩, fun c hcm => ?_⟩
    rw [upd_ne (Nat.ne_of_lt (st.lt hcm))]
    exact (hf c hcm).1
  done := by
    intro X hP hw hK hc k pins s σ H E I hf st hg
    subst hP hw hK
    obtain ⟨x0, y0, hO⟩ := st.O
    obtain ⟨xs, ys, qx, qy, en⟩ := hg
    obtain ⟨its, rv, p, _⟩ := I.tuple qx
    obtain ⟨its2, rv2, p2, _⟩ := I.list qy
    have l1 := rv.length
    have l2 := rv2.length
    refine zm_last (t := true) (u := false) (I.ok.hd hc) D st.z st.I hO st.i st.j (show s.heap.IsTuple a its.toArray from p) p2.isList (en.imp (fun r => by simp; omega) fun r => by simp; omega) fun g r => ⟨rfl, ?_⟩
    exact I.turnedL (t' := s.toks) (ch := [z, TI, TO, i, j]) (fun c o hb e => r.out hb e) hf
  self := fun A k s Q E st h => wpAny_pyIter_zip st.z h
/-- zip over two lists, two tuples, or a tuple and a list -/
def iZ3 (K : PySem.W.Frag) (ta : TA) : TI := fun σ H R => ta σ H fun vs G => ∃ a b xs ys, vs = [.ref a, .ref b] ∧ ((SqL K G a xs ∧ SqL K G b ys ∧ R (Itz K a b) G) ∨ (SqT K G a xs ∧ SqT K G b ys ∧ R (RZ.ItzT K a b) G) ∨ (SqT K G a xs ∧ SqL K G b ys ∧ R (ItM K a b) G))
theorem pi_z3 {X : Cx} {e e2 : Expr} {ta : TA} {p pos tp : Pos} {es : List Expr} {kk : Nat} (hg : Gl X "zip") (hm : X.mg "zip" = none) (ha : PA X [e, e2] ta) (hs : starEach [e, e2] X.env = (false, eval e X.env) :: starEach [e2] X.env) (hpl : (backTo pos (starEach [e2] X.env)).any (·.1) = false) :
    PI X (.Tuple es kk tp) (.Call (.Name "zip" p) [e, e2] [] pos) (iZ3 X.K ta) := by
  refine ⟨fun pins s σ H R I h => Call_ (ld_blt I hg hm PyProof.Rows.boot_zip (PyProof.Rows.callWith_type1 (thn (ha.run pos pins s σ H _ I h) fun us s1 ⟨vs, G, J, r1, a, b, xs, ys, ex, q⟩ => ?_) hs hpl))⟩
  subst ex
  obtain ⟨⟨⟩, ⟨⟩, ⟨⟩⟩ : ∃ (_ : True) (_ : True), us = [.ref a, .ref b] := by
    cases r1 with
    | cons r rr =>
      cases rr with
      | cons r' rr => cases rr; cases r; cases r'; exact ⟨trivial, trivial, rfl⟩
  have new : ∀ c, c ∈ [s1.heap.objs.size + 4, s1.heap.objs.size + 2, s1.heap.objs.size + 3, s1.heap.objs.size, s1.heap.objs.size + 1] → FpOk X pins G c := fun c hc => by
    have le : s1.heap.objs.size ≤ c := by
      simp only [List.mem_cons, List.not_mem_nil, or_false] at hc
      omega
    exact J.fpOk le (J.hok.fresh le)
  rcases q with ⟨hx, hy, q⟩ | ⟨hx, hy, q⟩ | ⟨hx, hy, q⟩
  · obtain ⟨its, _, p1, _⟩ := J.list hx
    obtain ⟨its2, _, p2, _⟩ := J.list hy
    exact call_zip_2 p1.isList p2.isList fun g hz hI hO h1 h2 _ hk => wpAny_pyIter_zip hz ⟨_, _, _, _, G, rfl, J.kept (t' := s1.toks) hk, turn_zip (PySem.W.ktu_apart s1.heap.objs.size a b p1.lt p2.lt), ⟨hz, hI, ⟨_, _, hO⟩, h1, h2⟩, new, q⟩
  · obtain ⟨its, _, p1, _⟩ := J.tuple hx
    obtain ⟨its2, _, p2, _⟩ := J.tuple hy
    obtain ⟨_, w1, _⟩ := id p1
    obtain ⟨_, w2, _⟩ := id p2
    exact RZ.call_zipT (show s1.heap.IsTuple a its.toArray from p1) (show s1.heap.IsTuple b its2.toArray from p2) fun g hz hI hO h1 h2 _ hk => wpAny_pyIter_zip hz ⟨_, _, _, _, G, rfl, J.kept (t' := s1.toks) hk, RZ.turn_zipT (PySem.W.ktu_apart s1.heap.objs.size a b (Heap.lt_size w1) (Heap.lt_size w2)), ⟨hz, hI, ⟨_, _, hO⟩, h1, h2⟩, new, q⟩
  · obtain ⟨its, _, p1, _⟩ := J.tuple hx
    obtain ⟨its2, _, p2, _⟩ := J.list hy
    obtain ⟨_, w1, _⟩ := id p1
    exact zm_call (show s1.heap.IsTuple a its.toArray from p1) p2.isList fun g hz hI hO h1 h2 hk => wpAny_pyIter_zip hz ⟨_, _, _, _, G, rfl, J.kept (t' := s1.toks) hk, turn_m (PySem.W.ktu_apart s1.heap.objs.size a b (Heap.lt_size w1) p2.lt), ⟨hz, hI, ⟨_, _, hO⟩, h1, h2⟩, new, q⟩
theorem piZ3 {X : Cx} {K : PySem.W.Frag} (h : X.K = K) {e e2 : Expr} {ta : TA} {p pos tp : Pos} {es : List Expr} {kk : Nat} (hg : Gl X "zip") (hm : X.mg "zip" = none) (ha : PA X [e, e2] ta) (hs : starEach [e, e2] X.env = (false, eval e X.env) :: starEach [e2] X.env) (hpl : (backTo pos (starEach [e2] X.env)).any (·.1) = false) :
    PI X (.Tuple es kk tp) (.Call (.Name "zip" p) [e, e2] [] pos) (iZ3 K ta) := h ▸ pi_z3 hg hm ha hs hpl
section
variable {K : PySem.W.Frag} {a b : Addr} {xs ys : List V} {n : Nat}
theorem walk_zm (hn : n = min xs.length ys.length) : Walk (ItM K a b) n (fun H => SqT K H a xs ∧ SqL K H b ys) (YPair (fun i => xs[i]?) (fun i => ys[i]?)) := by
  subst hn
  refine ⟨fun i _ hi q => ?_, fun _ q => ⟨xs, ys, q.1, q.2, by omega⟩, fun i H v H' _ q ⟨T, x, z, h1, h2, h3, h4, h5⟩ => ⟨T, x, z, h1, h2, h3, h4 xs q.1, h5 ys q.2⟩⟩
  have m1 : i < xs.length := by omega
  have m2 : i < ys.length := by omega
  exact ⟨xs, ys, xs[i], ys[i], q.1, q.2, List.getElem?_eq_getElem m1, List.getElem?_eq_getElem m2⟩
theorem walk_zt (hn : n = min xs.length ys.length) : Walk (RZ.ItzT K a b) n (fun H => SqT K H a xs ∧ SqT K H b ys) (YPair (fun i => xs[i]?) (fun i => ys[i]?)) := by
  subst hn
  refine ⟨fun i _ hi q => ?_, fun _ q => ⟨xs, ys, q.1, q.2, by omega⟩, fun i H v H' _ q ⟨T, x, z, h1, h2, h3, h4, h5⟩ => ⟨T, x, z, h1, h2, h3, h4 xs q.1, h5 ys q.2⟩⟩
  have m1 : i < xs.length := by omega
  have m2 : i < ys.length := by omega
  exact ⟨xs, ys, xs[i], ys[i], q.1, q.2, List.getElem?_eq_getElem m1, List.getElem?_eq_getElem m2⟩
end
end K51W

set_option maxHeartbeats 200000
/-! Numbers and fractions. -/
namespace K51W
open PySem PySem.Spec PyProof.Rows L2 K51
section
variable {P : Program} {w : World} {K : PySem.W.Frag} {mg : Str → Option Value} {base : Heap}
/-- a fraction as a pair -/
def rp (r : Rat) : List V := [.int r.num, .int (r.den : Int)]

def spCD : Sp := fun vs H Q _ => ∃ a b : Int, vs = [.int a, .int b] ∧ Q (.int ((Int.gcd a b : Nat) : Int)) H
theorem ok_common_divisor {f : Addr} {fd : FuncData} (F : Df K "common_divisor" "common_divisor" s_common_divisor f fd) (T : Bn mg) : FnOk P w K mg base CX0 41 f fd ["one", "two"] spCD := by
  refine body_ok F sc_common_divisor (fun vs H Q E h => by obtain ⟨a, b, rfl, _⟩ := h; rfl) (fun cdv A outer s H vs Q E hr h => ?_)
  obtain ⟨a, b, rfl, q⟩ := h
  refine ⟨_, (pss_cons (ps_par (i := 0) (j := 1) (by rfl) sc_common_divisor.nd rfl rfl (by decide) rfl rfl (pa_cons (pe_callB call_abs (by rfl) T.abs (by decide +kernel) (pa_cons (pv 0) pa_nil)) (pa_cons (pe_callB call_abs (by rfl) T.abs (by decide +kernel) (pa_cons (pv 1) pa_nil)) pa_nil)) (by rfl))
      (pss_cons (ps_while PassesOwn.never (pt_truth (pv 1) (by intro _; rfl)) (pss_one (ps_par (i := 0) (j := 1) (by rfl) sc_common_divisor.nd rfl rfl (by decide) rfl rfl (pa_cons (pv 1) (pa_cons (pe_op op_modN (pv 0) (pv 1)) pa_nil)) (by rfl))))
      (pss_one (ps_ret (pv 0))))), ?_⟩
  have ab : ∀ z : Int, (if z < 0 then -z else z) = (z.natAbs : Int) := fun z => by split <;> omega
  refine ⟨_, rfl, a, rfl, _, rfl, b, rfl, _, _, rfl, ?_⟩
  refine ⟨fun m σ H' => ∃ x y : Nat, σ = [some (.int (x : Int)), some (.int (y : Int))] ∧ m = y ∧ Nat.gcd x y = Int.gcd a b ∧ H' = H,
    ⟨_, a.natAbs, b.natAbs, by rw [ab, ab]; rfl, rfl, rfl, rfl⟩, ?_⟩
  rintro m σ H' ⟨x, y, rfl, rfl, hg, rfl⟩
  refine ⟨_, rfl, ((m : Int) != 0), rfl, ?_⟩
  by_cases hy : m = 0
  · subst hy
    refine ⟨_, rfl, ?_⟩
    rw [Nat.gcd_zero_right] at hg
    rw [hg]
    exact q
  · have e : ((m : Int) != 0) = true := by simp; omega
    rw [e]
    refine ⟨fun σ' H'' => ∃ m', m' < m ∧ ∃ x y : Nat, σ' = [some (.int (x : Int)), some (.int (y : Int))] ∧ m' = y ∧ Nat.gcd x y = Int.gcd a b ∧ H'' = H', fun _ _ z => z, ?_⟩
    refine ⟨_, rfl, _, rfl, _, rfl, _, _, rfl, rfl, by omega, _, _, rfl, ?_⟩
    have hp : 0 < m := by omega
    refine ⟨x % m, Nat.mod_lt _ hp, m, x % m, ?_, rfl, ?_, rfl⟩
    · have : Int.fmod (x : Int) (m : Int) = ((x % m : Nat) : Int) := by
        rw [Int.fmod_eq_emod_of_nonneg _ (by omega)]
        rfl
      show [some (V.int (m : Int)), some (V.int (Int.fmod (x : Int) (m : Int)))] = _
      rw [this]
    · rw [← hg, Nat.gcd_comm x m, Nat.gcd_rec m x, Nat.gcd_comm]

def spLow : Sp := fun vs H Q _ => ∃ t b : Int, vs = [.int t, .int b] ∧ b ≠ 0 ∧ ∀ p H', Same H H' → H p = none → H' p = some (.tup (rp (Rat.divInt t b))) → Q (.ref p) H'
theorem ok_lowest {f : Addr} {fd : FuncData} (F : Df K "lowest" "lowest" s_lowest f fd) (B : Big P base) (h_common_divisor : Fn P w K mg base 41 "common_divisor" ["one", "two"] spCD) : FnOk P w K mg base CX0 42 f fd ["top", "bottom"] spLow := by
  refine body_ok F sc_lowest (fun vs H Q E h => by obtain ⟨a, b, rfl, _⟩ := h; rfl) (fun cdv A outer s H vs Q E hr h => ?_)
  obtain ⟨t, b, rfl, hb, q⟩ := h
  refine ⟨_, (pss_cons (ps_set (i := 2) sc_lowest.nd rfl (Or.inl rfl) (pe_fn h_common_divisor (hr.mono (by decide)) (by rfl) (pa_cons (pv 0) (pa_cons (pv 1) pa_nil))))
      (pss_cons (ps_if (pt_cmpR op_lt (pv 1) pe_int (nomark _)) (pss_one (ps_set (i := 2) sc_lowest.nd rfl (Or.inl rfl) (pe_un un_neg (pv 2)))) pss_nil)
      (pss_one (ps_ret (pe_tup (pa_cons (pe_op (op_fdivP B ⟨_, _, rfl, rfl, rfl, rfl, rfl⟩ (hr.mono (by decide))) (pv 0) (pv 2)) (pa_cons (pe_op (op_fdivP B ⟨_, _, rfl, rfl, rfl, rfl, rfl⟩ (hr.mono (by decide))) (pv 1) (pv 2)) pa_nil))))))), ?_⟩
  obtain ⟨g0, e1, e2⟩ := lowest_eq t hb
  refine ⟨_, rfl, _, rfl, t, b, rfl, ?_⟩
  refine ⟨_, rfl, _, _, rfl, rfl, _, rfl, ?_⟩
  have fin : ∀ by_ : Int, by_ ≠ 0 → t.fdiv by_ = (Rat.divInt t b).num → b.fdiv by_ = ((Rat.divInt t b).den : Int) → ∀ p, H p = none → Q (.ref p) (upd H p (.tup [.int (t.fdiv by_), .int (b.fdiv by_)])) := fun by_ h0 h1 h2 p hp => by
    rw [h1, h2]
    exact q p _ (same_new hp) hp upd_same
  by_cases hn : b < 0
  · rw [decide_eq_true hn]
    rw [if_pos hn] at g0 e1 e2
    refine ⟨_, rfl, _, rfl, ?_⟩
    exact ⟨_, rfl, _, rfl, _, _, rfl, rfl, g0, _, rfl, _, rfl, _, _, rfl, rfl, g0, by show 2 ≤ sizeLine; decide, fin _ g0 e1 e2⟩
  · rw [decide_eq_false hn]
    rw [if_neg hn] at g0 e1 e2
    exact ⟨_, rfl, _, rfl, _, _, rfl, rfl, g0, _, rfl, _, rfl, _, _, rfl, rfl, g0, by show 2 ≤ sizeLine; decide, fin _ g0 e1 e2⟩

theorem at0 (r : Rat) : atI (rp r) 0 = some (.int r.num) := rfl
theorem at1 (r : Rat) : atI (rp r) 1 = some (.int (r.den : Int)) := rfl
def spTimes (K : PySem.W.Frag) : Sp := fun vs H Q _ => ∃ (p q : Addr) (r s : Rat), vs = [.ref p, .ref q] ∧ SqT K H p (rp r) ∧ SqT K H q (rp s) ∧ Mul r.num s.num ∧ Mul (r.den : Int) (s.den : Int) ∧
  ∀ p' H', Same H H' → H p' = none → H' p' = some (.tup (rp (r * s))) → Q (.ref p') H'
theorem ok_times {f : Addr} {fd : FuncData} (F : Df K "times" "times" s_times f fd) (h_lowest : Fn P w K mg base 42 "lowest" ["top", "bottom"] spLow) : FnOk P w K mg base CX0 43 f fd ["one", "two"] (spTimes K) := by
  refine body_ok F sc_times (fun vs H Q E h => by obtain ⟨a, b, r, s, rfl, _⟩ := h; rfl) (fun cdv A outer s H vs Q E hr h => ?_)
  obtain ⟨p1, p2, r, s, rfl, h1, h2, m1, m2, q⟩ := h
  refine ⟨_, (pss_one (ps_ret (pe_fn h_lowest (hr.mono (by decide)) (by rfl) (pa_cons (pe_op op_mulP (pe_ix (ixT (K := K) rfl) (pv 0) pe_int (fun _ _ => rfl)) (pe_ix (ixT (K := K) rfl) (pv 1) pe_int (fun _ _ => rfl))) (pa_cons (pe_op op_mulP (pe_ix (ixT (K := K) rfl) (pv 0) pe_int (fun _ _ => rfl)) (pe_ix (ixT (K := K) rfl) (pv 1) pe_int (fun _ _ => rfl))) pa_nil))))), ?_⟩
  refine ⟨_, rfl, p1, _, _, _, rfl, rfl, h1, at0 r, _, rfl, p2, _, _, _, rfl, rfl, h2, at0 s, _, _, rfl, rfl, m1, ?_⟩
  refine ⟨_, rfl, p1, _, _, _, rfl, rfl, h1, at1 r, _, rfl, p2, _, _, _, rfl, rfl, h2, at1 s, _, _, rfl, rfl, m2, ?_⟩
  refine ⟨_, _, rfl, Int.mul_ne_zero (den_ne r) (den_ne s), ?_⟩
  rw [times_eq]
  exact q
def spOver (K : PySem.W.Frag) : Sp := fun vs H Q _ => ∃ (p q : Addr) (r s : Rat), vs = [.ref p, .ref q] ∧ SqT K H p (rp r) ∧ SqT K H q (rp s) ∧ s ≠ 0 ∧ Mul r.num (s.den : Int) ∧ Mul (r.den : Int) s.num ∧
  ∀ p' H', Same H H' → H p' = none → H' p' = some (.tup (rp (r / s))) → Q (.ref p') H'
theorem ok_over {f : Addr} {fd : FuncData} (F : Df K "over" "over" s_over f fd) (h_lowest : Fn P w K mg base 42 "lowest" ["top", "bottom"] spLow) : FnOk P w K mg base CX0 43 f fd ["one", "two"] (spOver K) := by
  refine body_ok F sc_over (fun vs H Q E h => by obtain ⟨a, b, r, s, rfl, _⟩ := h; rfl) (fun cdv A outer s H vs Q E hr h => ?_)
  obtain ⟨p1, p2, r, s, rfl, h1, h2, s0, m1, m2, q⟩ := h
  refine ⟨_, (pss_one (ps_ret (pe_fn h_lowest (hr.mono (by decide)) (by rfl) (pa_cons (pe_op op_mulP (pe_ix (ixT (K := K) rfl) (pv 0) pe_int (fun _ _ => rfl)) (pe_ix (ixT (K := K) rfl) (pv 1) pe_int (fun _ _ => rfl))) (pa_cons (pe_op op_mulP (pe_ix (ixT (K := K) rfl) (pv 0) pe_int (fun _ _ => rfl)) (pe_ix (ixT (K := K) rfl) (pv 1) pe_int (fun _ _ => rfl))) pa_nil))))), ?_⟩
  obtain ⟨n0, e0⟩ := over_eq r s s0
  refine ⟨_, rfl, p1, _, _, _, rfl, rfl, h1, at0 r, _, rfl, p2, _, _, _, rfl, rfl, h2, at1 s, _, _, rfl, rfl, m1, ?_⟩
  refine ⟨_, rfl, p1, _, _, _, rfl, rfl, h1, at1 r, _, rfl, p2, _, _, _, rfl, rfl, h2, at0 s, _, _, rfl, rfl, m2, ?_⟩
  refine ⟨_, _, rfl, n0, ?_⟩
  rw [e0]
  exact q
def spPlus (K : PySem.W.Frag) : Sp := fun vs H Q _ => ∃ (p q : Addr) (r s : Rat), vs = [.ref p, .ref q] ∧ SqT K H p (rp r) ∧ SqT K H q (rp s) ∧ Mul r.num (s.den : Int) ∧ Mul s.num (r.den : Int) ∧ Mul (r.den : Int) (s.den : Int) ∧
  ∀ p' H', Same H H' → H p' = none → H' p' = some (.tup (rp (r + s))) → Q (.ref p') H'
theorem ok_plus {f : Addr} {fd : FuncData} (F : Df K "plus" "plus" s_plus f fd) (h_lowest : Fn P w K mg base 42 "lowest" ["top", "bottom"] spLow) : FnOk P w K mg base CX0 43 f fd ["one", "two"] (spPlus K) := by
  refine body_ok F sc_plus (fun vs H Q E h => by obtain ⟨a, b, r, s, rfl, _⟩ := h; rfl) (fun cdv A outer s H vs Q E hr h => ?_)
  obtain ⟨p1, p2, r, s, rfl, h1, h2, m1, m2, m3, q⟩ := h
  refine ⟨_, (pss_cons (ps_if (pt_cmpR op_eq (pe_ix (ixT (K := K) rfl) (pv 0) pe_int (fun _ _ => rfl)) (pe_ix (ixT (K := K) rfl) (pv 1) pe_int (fun _ _ => rfl)) (nomark _)) (pss_one (ps_ret (pe_fn h_lowest (hr.mono (by decide)) (by rfl) (pa_cons (pe_op op_add (pe_ix (ixT (K := K) rfl) (pv 0) pe_int (fun _ _ => rfl)) (pe_ix (ixT (K := K) rfl) (pv 1) pe_int (fun _ _ => rfl))) (pa_cons (pe_ix (ixT (K := K) rfl) (pv 0) pe_int (fun _ _ => rfl)) pa_nil))))) pss_nil)
      (pss_one (ps_ret (pe_fn h_lowest (hr.mono (by decide)) (by rfl) (pa_cons (pe_op op_add (pe_op op_mulP (pe_ix (ixT (K := K) rfl) (pv 0) pe_int (fun _ _ => rfl)) (pe_ix (ixT (K := K) rfl) (pv 1) pe_int (fun _ _ => rfl))) (pe_op op_mulP (pe_ix (ixT (K := K) rfl) (pv 1) pe_int (fun _ _ => rfl)) (pe_ix (ixT (K := K) rfl) (pv 0) pe_int (fun _ _ => rfl)))) (pa_cons (pe_op op_mulP (pe_ix (ixT (K := K) rfl) (pv 0) pe_int (fun _ _ => rfl)) (pe_ix (ixT (K := K) rfl) (pv 1) pe_int (fun _ _ => rfl))) pa_nil)))))), ?_⟩
  refine ⟨_, rfl, p1, _, _, _, rfl, rfl, h1, at1 r, _, rfl, p2, _, _, _, rfl, rfl, h2, at1 s, rfl, _, rfl, ?_⟩
  by_cases hd : (r.den : Int) = (s.den : Int)
  · rw [decide_eq_true (congrArg V.int hd)]
    refine ⟨_, rfl, p1, _, _, _, rfl, rfl, h1, at0 r, _, rfl, p2, _, _, _, rfl, rfl, h2, at0 s, _, _, rfl, rfl, _, rfl, p1, _, _, _, rfl, rfl, h1, at1 r, _, _, rfl, den_ne r, ?_⟩
    rw [plus_eq' r s hd]
    exact q
  · rw [decide_eq_false (fun z => hd (V.int.inj z))]
    refine ⟨_, rfl, p1, _, _, _, rfl, rfl, h1, at0 r, _, rfl, p2, _, _, _, rfl, rfl, h2, at1 s, _, _, rfl, rfl, m1, _, rfl, p2, _, _, _, rfl, rfl, h2, at0 s, _, rfl, p1, _, _, _, rfl, rfl, h1, at1 r, _, _, rfl, rfl, m2, _, _, rfl, rfl, ?_⟩
    refine ⟨_, rfl, p1, _, _, _, rfl, rfl, h1, at1 r, _, rfl, p2, _, _, _, rfl, rfl, h2, at1 s, _, _, rfl, rfl, m3, ?_⟩
    refine ⟨_, _, rfl, Int.mul_ne_zero (den_ne r) (den_ne s), ?_⟩
    rw [plus_eq]
    exact q
end
end K51W

set_option maxHeartbeats 200000
/-! Rows and matrices: the small defs. -/
namespace K51W
open PySem PySem.Spec PyProof.Rows L2 K51
section
variable {P : Program} {w : World} {K : PySem.W.Frag} {mg : Str → Option Value} {base : Heap}
abbrev iv (r : List Int) : List V := r.map V.int
theorem ext_of {ys zs : List V} (hl : ys.length = zs.length) (h : ∀ (i : Nat) (y z : V), ys[i]? = some y → zs[i]? = some z → y = z) : ys = zs := by
  refine List.ext_getElem? fun i => ?_
  rcases Nat.lt_or_ge i ys.length with hi | hi
  · rw [List.getElem?_eq_getElem hi, List.getElem?_eq_getElem (by omega)]
    exact congrArg some (h i _ _ (List.getElem?_eq_getElem hi) (List.getElem?_eq_getElem (by omega)))
  · rw [List.getElem?_eq_none hi, List.getElem?_eq_none (by omega)]

theorem iv_get {r : List Int} {i : Nat} {x : V} (h : (iv r)[i]? = some x) : ∃ u, r[i]? = some u ∧ x = .int u := by
  rw [List.getElem?_map] at h
  obtain ⟨u, h1, h2⟩ := Option.map_eq_some_iff.mp h
  exact ⟨u, h1, h2.symm⟩
def spNear : Sp := fun vs H Q _ => ∃ a b : Int, vs = [.int a, .int b] ∧ b ≠ 0 ∧ Q (.int (near a b)) H
theorem ok_nearest {f : Addr} {fd : FuncData} (F : Df K "nearest" "nearest" s_nearest f fd) (B : Big P base) : FnOk P w K mg base CX0 41 f fd ["one", "two"] spNear := by
  refine body_ok F sc_nearest (fun vs H Q E h => by obtain ⟨a, b, rfl, _⟩ := h; rfl) (fun cdv A outer s H vs Q E hr h => ?_)
  obtain ⟨a, b, rfl, hb, q⟩ := h
  refine ⟨_, (pss_cons (ps_if (pt_cmpR op_lt (pv 1) pe_int (nomark _)) (pss_one (ps_par (i := 0) (j := 1) (by rfl) sc_nearest.nd rfl rfl (by decide) rfl rfl (pa_cons (pe_un un_neg (pv 0)) (pa_cons (pe_un un_neg (pv 1)) pa_nil)) (by rfl))) pss_nil)
      (pss_one (ps_ret (pe_op (op_fdivP B ⟨_, _, rfl, rfl, rfl, rfl, rfl⟩ (hr.mono (by decide))) (pe_op op_add (pe_op op_mulP pe_int (pv 0)) (pv 1)) (pe_op op_mulP pe_int (pv 1)))))), ?_⟩
  have two : ∀ x : Int, Mul 2 x := fun x => .inl (by decide)
  refine ⟨_, rfl, _, _, rfl, rfl, _, rfl, ?_⟩
  unfold near at q
  by_cases hn : b < 0
  · rw [decide_eq_true hn]
    rw [if_pos hn] at q
    refine ⟨_, rfl, _, rfl, _, rfl, _, rfl, _, _, rfl, ?_⟩
    exact ⟨_, rfl, _, _, rfl, rfl, two _, _, rfl, _, _, rfl, rfl, _, rfl, _, _, rfl, rfl, two _, _, _, rfl, rfl, by omega, q⟩
  · rw [decide_eq_false hn]
    rw [if_neg hn] at q
    exact ⟨_, rfl, _, _, rfl, rfl, two _, _, rfl, _, _, rfl, rfl, _, rfl, _, _, rfl, rfl, two _, _, _, rfl, rfl, by omega, q⟩

def spLess (K : PySem.W.Frag) : Sp := fun vs H Q _ => ∃ (a b : Addr) (r o : List Int) (q : Int), vs = [.ref a, .int q, .ref b] ∧ SqL K H a (iv r) ∧ SqL K H b (iv o) ∧ r.length = o.length ∧ r.length ≤ 1000 ∧ (∀ x ∈ o, Mul q x) ∧
  ∀ p H', Same H H' → H p = none → H' p = some (.lst (iv (lessMul r q o))) → Q (.ref p) H'
theorem ok_less_multiple {f : Addr} {fd : FuncData} (F : Df K "less_multiple" "less_multiple" s_less_multiple f fd) (T : Bn mg) : FnOk P w K mg base CX0 41 f fd ["row", "by", "other"] (spLess K) := by
  refine body_ok F sc_less_multiple (fun vs H Q E h => by obtain ⟨a, b, r, o, q, rfl, _⟩ := h; rfl) (fun cdv A outer s H vs Q E hr h => ?_)
  obtain ⟨a, b, r, o, q, rfl, h1, h2, hl, hn, hm, k⟩ := h
  refine ⟨_, (pss_one (ps_ret (pe_lc (own := [("one", 3), ("two", 4)]) (by rfl) sc_less_multiple.nd (piZ (K := K) rfl (by rfl) T.zip (pa_cons (pv 0) (pa_cons (pv 2) pa_nil)) rfl rfl) (blkOk_by (N := ["row", "by", "other", "one", "two"]) (sc := defScope s_less_multiple) (own := [("one", 3), ("two", 4)]) (by decide +kernel)) (fun _ _ _ _ _ => (tupG (K := K) (n := 2) rfl rfl (pgs_cons (pg_name (i := 3) sc_less_multiple.nd rfl (Or.inl rfl) (Or.inr rfl)) (pgs_cons (pg_name (i := 4) sc_less_multiple.nd rfl (Or.inl rfl) (Or.inr rfl)) pgs_nil)) rfl rfl)) (fun _ _ _ _ _ => pts_nil) (fun _ _ _ _ _ => (pe_op op_sub (pv 3) (pe_op op_mulP (pv 1) (pv 4))))))), ?_⟩
  refine ⟨_, rfl, _, rfl, a, b, _, _, rfl, h1, h2, fun D hD => ?_⟩
  refine lc_map (walk_zip (n := r.length) (by simp [hl])) hD (fun i v _ => ∃ x y, r[i]? = some x ∧ o[i]? = some y ∧ v = .int (x - q * y)) (fun _ _ _ _ _ z => z) (by omega)
    (fun H' s1 => ⟨s1.seq h1, s1.seq h2⟩) ?_ ?_
  · rintro i x H1 H2 hi s1 hD1 ⟨T', x1, y1, rfl, nT, rfl, e1, e2⟩ N go
    obtain ⟨u, hu, rfl⟩ := iv_get e1
    obtain ⟨v, hv, rfl⟩ := iv_get e2
    refine ⟨T', [.int u, .int v], rfl, sqT upd_same, rfl, _, _, rfl, _, _, rfl, rfl, rfl, ?_⟩
    refine ⟨_, rfl, _, rfl, _, rfl, _, _, rfl, rfl, hm v (List.mem_of_getElem? hv), _, _, rfl, rfl, go _ _ (same_new nT) ⟨u, v, hu, hv, rfl⟩⟩
  · intro H' ys s1 e1 e2 e3
    refine k D H' s1 hD ?_
    rw [e1]
    congr 2
    refine ext_of (by rw [e2, List.length_map, lessMul_len rfl hl.symm]) fun i y z hy hz => ?_
    obtain ⟨x, x', h1, h2, rfl⟩ := e3 i y hy
    unfold lessMul at hz
    rw [List.getElem?_map, List.getElem?_zipWith, h1, h2] at hz
    cases hz
    rfl

/-! ### data -/
abbrev eH : Hp := fun _ => none
abbrev dI (r : List Int) : PyData := .list (r.map .int)
abbrev dM (M : Mat) : PyData := .list (M.map dI)
abbrev dR (r : Rat) : PyData := .tuple [.int r.num, .int (r.den : Int)]
abbrev dRs (rs : List Rat) : PyData := .list (rs.map dR)
theorem eH_same (H : Hp) : Same eH H := fun _ _ e => nomatch e
theorem mk_list {G H H' : Hp} {D : Addr} {ys : List V} {ds : List PyData} (hD : H D = none) (h1 : H' D = some (.lst ys)) (hl : ys.length = ds.length)
    (h : ∀ (i : Nat) (y : V) (d : PyData), ys[i]? = some y → ds[i]? = some d → Dp K (nw G H (wo H' D)) y d) : Dp K (nw G H H') (.ref D) (.list ds) :=
  .lst (sqL (by rw [nw_new hD]; exact h1)) (DpAll.of hl fun i y d a b => Dp.up (nw_mono wo_le) _ (h i y d a b))
theorem mk_ints {G H H' : Hp} {D : Addr} {r : List Int} (hD : H D = none) (h1 : H' D = some (.lst (iv r))) : Dp K (nw G H H') (.ref D) (dI r) :=
  .lst (sqL (by rw [nw_new hD]; exact h1)) (DpAll.ints r)
theorem mk_rat {G H H' : Hp} {D : Addr} {r : Rat} (hD : H D = none) (h1 : H' D = some (.tup (rp r))) : Dp K (nw G H H') (.ref D) (dR r) :=
  .tup (sqT (by rw [nw_new hD]; exact h1)) (.cons (.int _) (.cons (.int _) .nil))
theorem get_ints {H : Hp} {v : V} {r : List Int} (h : Dp K H v (dI r)) : ∃ a, v = .ref a ∧ SqL K H a (iv r) := by
  obtain ⟨a, xs, rfl, q, d⟩ := Dp.lstI h
  rw [DpAll.ints_inv d] at q
  exact ⟨a, rfl, q⟩
theorem get_rat {H : Hp} {v : V} {r : Rat} (h : Dp K H v (dR r)) : ∃ a, v = .ref a ∧ SqT K H a (rp r) := by
  obtain ⟨a, xs, rfl, q, d⟩ := Dp.tupI h
  refine ⟨a, rfl, ?_⟩
  cases d with
  | cons h1 d =>
    cases d with
    | cons h2 d =>
      cases d
      cases h1
      cases h2
      exact q
/-- rows as they stand -/
theorem get_rows {H : Hp} {v : V} {M : Mat} (h : Dp K H v (dM M)) : ∃ a xs, v = .ref a ∧ SqL K H a xs ∧ xs.length = M.length ∧ ∀ (i : Nat) (r : List Int), M[i]? = some r → ∃ p, xs[i]? = some (.ref p) ∧ SqL K H p (iv r) := by
  obtain ⟨a, xs, rfl, q, d⟩ := Dp.lstI h
  refine ⟨a, xs, rfl, q, by rw [DpAll.len d, List.length_map], fun i r hr => ?_⟩
  obtain ⟨v, h1, h2⟩ := DpAll.get (i := i) (d := dI r) d (by rw [List.getElem?_map, hr]; rfl)
  obtain ⟨p, rfl, h3⟩ := get_ints h2
  exact ⟨p, h1, h3⟩
theorem num_int (x : Int) : (x : Rat).num = x := rfl
theorem den_int (x : Int) : (((x : Rat).den : Nat) : Int) = 1 := rfl

/-! ### identity, turned, pairs_of -/
/-- a list of rows of integers, made since H, all of it at places of its own -/
def NewM (H H' : Hp) (a : Addr) (M : Mat) : Prop := H a = none ∧ ∃ xs : List V, H' a = some (.lst xs) ∧ xs.length = M.length ∧ ∀ (i : Nat) (r : List Int), M[i]? = some r → ∃ p, xs[i]? = some (.ref p) ∧ p ≠ a ∧ H p = none ∧ H' p = some (.lst (iv r))
theorem NewM.dp {H H' : Hp} {a : Addr} {M : Mat} (h : NewM H H' a M) : Dp K (nw eH H H') (.ref a) (dM M) := by
  obtain ⟨h0, xs, h1, h2, h3⟩ := h
  refine .lst (sqL (by rw [nw_new h0]; exact h1)) (DpAll.of (by rw [h2, List.length_map]) fun i v d hv hd => ?_)
  rw [List.getElem?_map] at hd
  obtain ⟨r, hr, rfl⟩ := Option.map_eq_some_iff.mp hd
  obtain ⟨p, g1, _, g2, g3⟩ := h3 i r hr
  rw [hv] at g1
  cases g1
  exact mk_ints g2 g3
def spId : Sp := fun vs H Q _ => ∃ n : Nat, vs = [.int (n : Int)] ∧ n ≤ 1000 ∧ ∀ a H', Same H H' → NewM H H' a (idm n) → Q (.ref a) H'
theorem ok_identity {f : Addr} {fd : FuncData} (F : Df K "identity" "identity" s_identity f fd) (T : Bn mg) : FnOk P w K mg base CX0 41 f fd ["many"] spId := by
  refine body_ok F sc_identity (fun vs H Q E h => by obtain ⟨n, rfl, _⟩ := h; rfl) (fun cdv A outer s H vs Q E hr h => ?_)
  obtain ⟨n, rfl, hn, k⟩ := h
  refine ⟨_, (pss_one (ps_ret (pe_lc (own := [("k", 2)]) (by rfl) sc_identity.nd (pi_range1 (by rfl) T.range (pa_cons (pv 0) pa_nil)) (blkOk_by (N := ["many", "j", "k"]) (sc := defScope s_identity) (own := [("k", 2)]) (by decide +kernel)) (fun _ _ _ _ _ => (pg_name (i := 2) sc_identity.nd rfl (Or.inr rfl) (Or.inl rfl))) (fun _ _ _ _ _ => pts_nil) (fun _ _ _ _ _ => (pe_lc (own := [("j", 1)]) (by rfl) sc_identity.nd (pi_range1 (by rfl) T.range (pa_cons (pv 0) pa_nil)) (blkOk_by (own := [("j", 1)]) (by kernel_rfl)) (fun _ _ _ _ _ => (pg_name (i := 1) sc_identity.nd rfl (Or.inl rfl) (Or.inr rfl))) (fun _ _ _ _ _ => pts_nil) (fun _ _ _ _ _ => (pe_callTy call_int1 (by rfl) T.int (by decide +kernel) (pa_cons (pe_cmpR op_eq (pv 1) (pv 2) (nomark _)) pa_nil)))))))), ?_⟩
  refine ⟨_, rfl, (n : Int), rfl, by omega, by omega, fun D hD => ?_⟩
  refine lc_map (n := n) walk_range hD (fun i v G => ∃ p, v = .ref p ∧ H p = none ∧ G p = some (.lst (iv ((List.range n).map fun j => if j = i then 1 else 0)))) (fun i v G G' s ⟨p, h1, h2, h3⟩ => ⟨p, h1, h2, s _ _ h3⟩) (by omega) (fun _ _ => trivial) ?_ ?_
  · rintro i x H1 H2 hi s1 hD1 ⟨rfl, rfl⟩ N go
    refine ⟨rfl, _, rfl, (n : Int), rfl, by omega, by omega, fun D2 hD2 => ?_⟩
    refine lc_map (n := n) walk_range hD2 (fun j v _ => v = .int (if j = i then 1 else 0)) (fun _ _ _ _ _ z => z) (by omega) (fun _ _ => trivial) ?_ ?_
    · rintro j x H3 H4 hj s2 hD3 ⟨rfl, rfl⟩ N2 go2
      refine ⟨rfl, _, rfl, _, rfl, rfl, .inr ⟨_, rfl, go2 _ _ (Same.refl _) ?_⟩⟩
      by_cases e : j = i
      · subst e
        rw [if_pos rfl]
        simp
      · rw [if_neg e]
        have : ¬ ((V.int (0 + (j : Int))) = V.int (0 + (i : Int))) := fun z => e (by have := V.int.inj z; omega)
        rw [decide_eq_false this]
        rfl
    · intro H' ys s2 e1 e2 e3
      have ey : ys = iv ((List.range n).map fun j => if j = i then 1 else 0) := ext_of (by simp [e2]) fun j y z hy hz => by
        rw [e3 j y hy]
        have hj := (List.getElem?_eq_some_iff.mp hy).1
        simp [List.getElem?_map, show j < n by omega] at hz
        exact hz
      have nD : D2 ≠ D := fun z => hD1 (z ▸ hD2)
      refine go _ _ s2 ⟨D2, rfl, s1.free hD2, ?_⟩
      rw [wo_at nD, e1, ey]
  · intro H' ys s1 e1 e2 e3
    refine k _ _ s1 ⟨hD, ys, e1, by simp [e2, idm], fun i r hr => ?_⟩
    unfold idm at hr
    have hi : i < n := by
      have := (List.getElem?_eq_some_iff.mp hr).1
      simpa using this
    obtain ⟨p, h1, h2, h3⟩ := e3 i ys[i] (List.getElem?_eq_getElem (by omega))
    simp [List.getElem?_map, hi] at hr
    subst hr
    have np : p ≠ D := fun z => by rw [z, wo_none] at h3; cases h3
    rw [wo_at np] at h3
    exact ⟨p, by rw [List.getElem?_eq_getElem (by omega), h1], np, h2, by simpa using h3⟩

def spTurned (K : PySem.W.Frag) : Sp := fun vs H Q _ => ∃ (v : V) (M : Mat) (m w : Nat), vs = [v] ∧ Dp K H v (dM M) ∧ Rect m w M ∧ 0 < m ∧ m ≤ 1000 ∧ w ≤ 1000 ∧ ∀ v' H', Same H H' → Dp K (nw eH H H') v' (dM (turnM w M)) → Q v' H'
theorem ok_turned {f : Addr} {fd : FuncData} (F : Df K "turned" "turned" s_turned f fd) (T : Bn mg) : FnOk P w K mg base CX0 41 f fd ["rows"] (spTurned K) := by
  refine body_ok F sc_turned (fun vs H Q E h => by obtain ⟨v, M, m, w, rfl, _⟩ := h; rfl) (fun cdv A outer s H vs Q E hr h => ?_)
  obtain ⟨v, M, m, n, rfl, hv, R, hm, hm2, hn, k⟩ := h
  obtain ⟨a, xs, rfl, hS, hl, hrow⟩ := get_rows hv
  refine ⟨_, (pss_one (ps_ret (pe_lc (own := [("k", 2)]) (by rfl) sc_turned.nd (pi_range1 (by rfl) T.range (pa_cons (pe_callB (lenS (K := K) rfl) (by rfl) T.len (by decide +kernel) (pa_cons (pe_ix (ixL (K := K) rfl) (pv 0) pe_int (fun _ _ => rfl)) pa_nil)) pa_nil)) (blkOk_by (N := ["rows", "row", "k"]) (sc := defScope s_turned) (own := [("k", 2)]) (by decide +kernel)) (fun _ _ _ _ _ => (pg_name (i := 2) sc_turned.nd rfl (Or.inr rfl) (Or.inl rfl))) (fun _ _ _ _ _ => pts_nil) (fun _ _ _ _ _ => (pe_lc (own := [("row", 1)]) (by rfl) sc_turned.nd (piL (K := K) rfl (pv 0)) (blkOk_by (own := [("row", 1)]) (by kernel_rfl)) (fun _ _ _ _ _ => (pg_name (i := 1) sc_turned.nd rfl (Or.inl rfl) (Or.inr rfl))) (fun _ _ _ _ _ => pts_nil) (fun _ _ _ _ _ => (pe_ix (ixL (K := K) rfl) (pv 1) (pv 2) (fun _ _ => rfl)))))))), ?_⟩
  have h0 : 0 < M.length := by rw [R.1]; exact hm
  obtain ⟨p0, g0, q0⟩ := hrow 0 M[0] (List.getElem?_eq_getElem h0)
  have l0 : M[0].length = n := R.2 _ (List.getElem_mem h0)
  refine ⟨_, rfl, a, xs, 0, _, rfl, rfl, hS, atI_nat (j := 0) g0, p0, _, rfl, .inl q0, _, rfl, by rw [List.length_map, l0]; omega, by rw [List.length_map, l0]; omega, fun D hD => ?_⟩
  refine lc_map (n := n) (by rw [List.length_map, l0]; exact walk_range) hD (fun i v G => Dp K (nw eH H G) v (dI (M.map fun r : List Int => r.getD i 0))) (fun i v G G' s d => Dp.up (nw_mono s) _ d) (by omega) (fun _ _ => trivial) ?_ ?_
  · rintro i x H1 H2 hi s1 hD1 ⟨rfl, rfl⟩ N go
    refine ⟨rfl, _, rfl, a, rfl, ⟨xs, s1.seq hS⟩, fun D2 hD2 => ?_⟩
    refine lc_map (n := xs.length) walk_list hD2 (fun j v _ => ∃ r, M[j]? = some r ∧ v = .int (r.getD i 0)) (fun _ _ _ _ _ z => z) (by rw [hl, R.1]; omega) (fun _ s2 => s2.seq (s1.seq hS)) ?_ ?_
    · rintro j x H3 H4 hj s2 hD3 ⟨rfl, ex⟩ N2 go2
      have hjm : j < M.length := by omega
      obtain ⟨p, gp, qp⟩ := hrow j M[j] (List.getElem?_eq_getElem hjm)
      rw [ex] at gp
      cases gp
      have lj : M[j].length = n := R.2 _ (List.getElem_mem hjm)
      have gi : (iv M[j])[i]? = some (.int (M[j].getD i 0)) := by
        rw [List.getElem?_map, List.getElem?_eq_getElem (by omega)]
        simp [List.getD_eq_getElem?_getD, show i < M[j].length by omega]
      refine ⟨rfl, _, rfl, _, rfl, p, _, _, _, rfl, rfl, s2.seq (s1.seq qp), at_of (by omega) gi, go2 _ _ (Same.refl _) ⟨_, List.getElem?_eq_getElem hjm, rfl⟩⟩
    · intro H' ys s2 e1 e2 e3
      have ey : ys = iv (M.map fun r => r.getD i 0) := ext_of (by simp [e2, hl]) fun j y z hy hz => by
        obtain ⟨r, h1, rfl⟩ := e3 j y hy
        rw [List.getElem?_map, List.getElem?_map, h1] at hz
        exact Option.some.inj hz
      have nD : D2 ≠ D := fun z => hD1 (z ▸ hD2)
      refine go _ _ s2 (mk_ints (s1.free hD2) ?_)
      rw [wo_at nD, e1, ey]
  · intro H' ys s1 e1 e2 e3
    refine k _ _ s1 (mk_list hD e1 (by simp [e2, turnM]) fun i y d hy hd => ?_)
    have := e3 i y hy
    unfold turnM at hd
    have hi := (List.getElem?_eq_some_iff.mp hy).1
    simp [List.getElem?_map, show i < n by omega] at hd
    subst hd
    simpa using this
end
end K51W

set_option maxHeartbeats 200000
/-! Rows of fractions. -/
namespace K51W
open PySem PySem.Spec PyProof.Rows L2 K51
section
variable {P : Program} {w : World} {K : PySem.W.Frag} {mg : Str → Option Value} {base : Heap}
/-- rows of integers as fractions -/
abbrev ratM (M : Mat) : List (List Rat) := M.map fun r => r.map fun x : Int => (x : Rat)
abbrev dQ (Q : List (List Rat)) : PyData := .list (Q.map dRs)
def spPairs (K : PySem.W.Frag) : Sp := fun vs H Q _ => ∃ (v : V) (M : Mat), vs = [v] ∧ Dp K H v (dM M) ∧ M.length ≤ 1000 ∧ (∀ r ∈ M, r.length ≤ 1000) ∧ ∀ v' H', Same H H' → Dp K (nw eH H H') v' (dQ (ratM M)) → Q v' H'
theorem ok_pairs_of {f : Addr} {fd : FuncData} (F : Df K "pairs_of" "pairs_of" s_pairs_of f fd) (T : Bn mg) : FnOk P w K mg base CX0 41 f fd ["rows"] (spPairs K) := by
  refine body_ok F sc_pairs_of (fun vs H Q E h => by obtain ⟨v, M, rfl, _⟩ := h; rfl) (fun cdv A outer s H vs Q E hr h => ?_)
  obtain ⟨v, M, rfl, hv, hm, hn, k⟩ := h
  obtain ⟨a, xs, rfl, hS, hl, hrow⟩ := get_rows hv
  refine ⟨_, (pss_one (ps_ret (pe_lc (own := [("row", 2)]) (by rfl) sc_pairs_of.nd (piL (K := K) rfl (pv 0)) (blkOk_by (N := ["rows", "item", "row"]) (sc := defScope s_pairs_of) (own := [("row", 2)]) (by decide +kernel)) (fun _ _ _ _ _ => (pg_name (i := 2) sc_pairs_of.nd rfl (Or.inl rfl) (Or.inr rfl))) (fun _ _ _ _ _ => pts_nil) (fun _ _ _ _ _ => (pe_lc (own := [("item", 1)]) (by rfl) sc_pairs_of.nd (piL (K := K) rfl (pv 2)) (blkOk_by (own := [("item", 1)]) (by kernel_rfl)) (fun _ _ _ _ _ => (pg_name (i := 1) sc_pairs_of.nd rfl (Or.inl rfl) (Or.inr rfl))) (fun _ _ _ _ _ => pts_nil) (fun _ _ _ _ _ => (pe_tup (pa_cons (pv 1) (pa_cons pe_int pa_nil))))))))), ?_⟩
  refine ⟨_, rfl, a, rfl, ⟨xs, hS⟩, fun D hD => ?_⟩
  refine lc_map (n := xs.length) walk_list hD (fun i v G => ∃ r, M[i]? = some r ∧ Dp K (nw eH H G) v (dRs (r.map fun x : Int => (x : Rat)))) (fun i v G G' s ⟨r, h1, d⟩ => ⟨r, h1, Dp.up (nw_mono s) _ d⟩) (by omega) (fun _ s1 => s1.seq hS) ?_ ?_
  · rintro i x H1 H2 hi s1 hD1 ⟨rfl, ex⟩ N go
    have hiM : i < M.length := by omega
    obtain ⟨p, gp, qp⟩ := hrow i M[i] (List.getElem?_eq_getElem hiM)
    rw [ex] at gp
    cases gp
    have lr := hn M[i] (List.getElem_mem hiM)
    refine ⟨rfl, _, rfl, p, rfl, ⟨_, s1.seq qp⟩, fun D2 hD2 => ?_⟩
    refine lc_map (n := (iv M[i]).length) walk_list hD2 (fun j v G => ∃ x, M[i][j]? = some x ∧ Dp K (nw eH H2 G) v (dR (x : Rat))) (fun i v G G' s ⟨r, h1, d⟩ => ⟨r, h1, Dp.up (nw_mono s) _ d⟩) (by rw [List.length_map]; omega) (fun _ s2 => s2.seq (s1.seq qp)) ?_ ?_
    · rintro j x H3 H4 hj s2 hD3 ⟨rfl, ex2⟩ N2 go2
      obtain ⟨u, hu, rfl⟩ := iv_get ex2
      have nD : ∀ T, H4 T = none → T ≠ D2 := fun T hT z => hD3 (z ▸ hT)
      refine ⟨rfl, _, rfl, by show 2 ≤ sizeLine; decide, fun T hT => go2 _ _ (same_new hT) ⟨u, hu, ?_⟩⟩
      exact mk_rat (r := (u : Rat)) (s2.free hT) (by rw [wo_at (nD T hT), upd_same]; rfl)
    · intro H' ys s2 e1 e2 e3
      have nD : D2 ≠ D := fun z => hD1 (z ▸ hD2)
      refine go _ _ s2 ⟨_, List.getElem?_eq_getElem hiM, .lst (xs := ys) (sqL (by rw [nw_new (s1.free hD2), wo_at nD]; exact e1)) (DpAll.of (by simp [e2]) fun j y d hy hd => ?_)⟩
      obtain ⟨x, hx, dx⟩ := e3 j y hy
      rw [List.getElem?_map, List.getElem?_map, hx] at hd
      cases hd
      -- new since H2, so new since H
      refine Dp.up (fun b o e => ?_) _ dx
      unfold nw at e ⊢
      cases q : H2 b with
      | none =>
        rw [q] at e
        rw [s1.free q]
        have e' : (wo H' D2) b = some o := e
        have n1 : b ≠ D := fun z => hD1 (z ▸ q)
        show wo H' D b = some o
        rw [wo_at n1]
        exact wo_le _ _ e'
      | some u =>
        rw [q] at e
        cases e
  · intro H' ys s1 e1 e2 e3
    refine k _ _ s1 (mk_list hD e1 (by simp [e2, hl]) fun i y d hy hd => ?_)
    obtain ⟨r, hr, dr⟩ := e3 i y hy
    rw [List.getElem?_map, List.getElem?_map, hr] at hd
    cases hd
    exact dr

/-- a list or a tuple of data -/
def DSq (K : PySem.W.Frag) (H : Hp) (v : V) (ds : List PyData) : Prop := Dp K H v (.list ds) ∨ Dp K H v (.tuple ds)
theorem DSq.get {H : Hp} {v : V} {ds : List PyData} (h : DSq K H v ds) : ∃ a xs, v = .ref a ∧ (SqL K H a xs ∨ SqT K H a xs) ∧ DpAll K H xs ds := by
  rcases h with h | h
  · obtain ⟨a, xs, e, q, d⟩ := Dp.lstI h
    exact ⟨a, xs, e, .inl q, d⟩
  · obtain ⟨a, xs, e, q, d⟩ := Dp.tupI h
    exact ⟨a, xs, e, .inr q, d⟩
theorem rats_get {H : Hp} {xs : List V} {rs : List Rat} (d : DpAll K H xs (rs.map dR)) {i : Nat} {x : V} (h : xs[i]? = some x) : ∃ r p, rs[i]? = some r ∧ x = .ref p ∧ SqT K H p (rp r) := by
  obtain ⟨y, h1, h2⟩ := DpAll.getV d h
  rw [List.getElem?_map] at h1
  obtain ⟨r, h3, rfl⟩ := Option.map_eq_some_iff.mp h1
  obtain ⟨p, rfl, q⟩ := get_rat h2
  exact ⟨r, p, h3, rfl, q⟩

/-- a walk over a list or a tuple, whichever it is -/
theorem seq_or {H : Hp} {a : Addr} {xs : List V} {R : It → Hp → Prop} (hS : SqL K H a xs ∨ SqT K H a xs) (h : ∀ (J : It) (Gd : Hp → Prop), Walk J xs.length Gd (YAt xs) → (∀ H', Same H H' → Gd H') → R J H) :
    SeqR K H a xs R := by
  rcases hS with q | q
  · exact .inl ⟨q, h _ _ walk_list fun H' s => s.seq q⟩
  · exact .inr ⟨q, h _ _ walk_tup fun H' s => Same.seqT s q⟩
def spCB (K : PySem.W.Frag) : Sp := fun vs H Q _ => ∃ (v : V) (rs : List Rat), vs = [v] ∧ DSq K H v (rs.map dR) ∧ rs.length ≤ 1000 ∧ (∀ (i : Nat) (r : Rat), rs[i]? = some r → Mul ((cbot (rs.take i) : Nat) : Int) (r.den : Int)) ∧ Q (.int ((cbot rs : Nat) : Int)) H
theorem ok_common_bottom {f : Addr} {fd : FuncData} (F : Df K "common_bottom" "common_bottom" s_common_bottom f fd) (B : Big P base) (h_common_divisor : Fn P w K mg base 41 "common_divisor" ["one", "two"] spCD) : FnOk P w K mg base CX0 42 f fd ["row"] (spCB K) := by
  refine body_ok F sc_common_bottom (fun vs H Q E h => by obtain ⟨v, M, rfl, _⟩ := h; rfl) (fun cdv A outer s H vs Q E hr h => ?_)
  obtain ⟨v, rs, rfl, hv, hn, hm, k⟩ := h
  obtain ⟨a, xs, rfl, hS, d⟩ := hv.get
  have hl : xs.length = rs.length := by rw [DpAll.len d, List.length_map]
  refine ⟨_, (pss_cons (ps_set (i := 1) sc_common_bottom.nd rfl (Or.inl rfl) pe_int)
      (pss_cons (ps_for PassesOwn.never rfl (piS (K := K) rfl (pv 0)) (pg_name (i := 2) sc_common_bottom.nd rfl (Or.inl rfl) (Or.inr rfl))
      (pss_one (ps_set (i := 1) sc_common_bottom.nd rfl (Or.inl rfl) (pe_op (op_fdivP B ⟨_, _, rfl, rfl, rfl, rfl, rfl⟩ (hr.mono (by decide))) (pe_op op_mulP (pv 1) (pe_ix (ixT (K := K) rfl) (pv 2) pe_int (fun _ _ => rfl))) (pe_fn h_common_divisor (hr.mono (by decide)) (by rfl) (pa_cons (pv 1) (pa_cons (pe_ix (ixT (K := K) rfl) (pv 2) pe_int (fun _ _ => rfl)) pa_nil)))))))
      (pss_one (ps_ret (pv 1))))), ?_⟩
  refine ⟨_, rfl, a, xs, rfl, seq_or hS fun J Gd wk hG => ?_⟩
  refine for_it wk (fun i σ H' => H' = H ∧ ∃ z, σ = [some (.ref a), some (.int ((cbot (rs.take i) : Nat) : Int)), z]) ⟨rfl, none, rfl⟩ (fun i σ H' _ ⟨e, _⟩ => by subst e; exact hG _ (Same.refl _)) ?_ ?_
  · rintro i x σ H1 H' hi ⟨rfl, z, rfl⟩ ⟨rfl, ex⟩
    obtain ⟨r, p, hr', rfl, q⟩ := rats_get d ex
    have g0 : ((Int.gcd ((cbot (rs.take i) : Nat) : Int) (r.den : Int) : Nat) : Int) ≠ 0 := by
      have : 0 < Int.gcd ((cbot (rs.take i) : Nat) : Int) (r.den : Int) := Int.gcd_pos_of_ne_zero_right _ (den_ne r)
      omega
    refine ⟨_, rfl, _, rfl, p, _, _, _, rfl, rfl, q, at1 r, _, _, rfl, rfl, hm i r hr', _, rfl, _, rfl, p, _, _, _, rfl, rfl, q, at1 r, _, _, rfl, _, _, rfl, rfl, g0, rfl, some (.ref p), ?_⟩
    have e1 : cbot (rs.take (i + 1)) = cbot (rs.take i) * r.den / Nat.gcd (cbot (rs.take i)) r.den := foldl_take _ _ rs i r hr'
    rw [e1]
    have e2 : (((cbot (rs.take i) : Nat) : Int) * ((r.den : Nat) : Int)).fdiv ((Int.gcd ((cbot (rs.take i) : Nat) : Int) (r.den : Int) : Nat) : Int) = ((cbot (rs.take i) * r.den / Nat.gcd (cbot (rs.take i)) r.den : Nat) : Int) := by
      rw [Int.fdiv_eq_ediv_of_nonneg _ (by omega)]
      rfl
    rw [← e2]
    rfl
  · rintro σ H' ⟨rfl, z, rfl⟩
    rw [hl, List.take_length]
    exact ⟨_, rfl, k⟩

def spInts (K : PySem.W.Frag) : Sp := fun vs H Q _ => ∃ (v : V) (rs : List Rat), vs = [v] ∧ DSq K H v (rs.map dR) ∧ rs.length ≤ 1000 ∧ (∀ (i : Nat) (r : Rat), rs[i]? = some r → Mul ((cbot (rs.take i) : Nat) : Int) (r.den : Int)) ∧
  (∀ r ∈ rs, Mul r.num ((cbot rs / r.den : Nat) : Int)) ∧ ∀ p H', Same H H' → H p = none → H' p = some (.lst (iv (intsOf rs))) → Q (.ref p) H'
theorem ok_integers {f : Addr} {fd : FuncData} (F : Df K "integers" "integers" s_integers f fd) (B : Big P base) (h_common_divisor : Fn P w K mg base 41 "common_divisor" ["one", "two"] spCD) (h_common_bottom : Fn P w K mg base 42 "common_bottom" ["row"] (spCB K)) :
    FnOk P w K mg base CX0 43 f fd ["row"] (spInts K) := by
  refine body_ok F sc_integers (fun vs H Q E h => by obtain ⟨v, M, rfl, _⟩ := h; rfl) (fun cdv A outer s H vs Q E hr h => ?_)
  obtain ⟨v, rs, rfl, hv, hn, hm, hm2, k⟩ := h
  obtain ⟨a, xs, rfl, hS, d⟩ := hv.get
  have hl : xs.length = rs.length := by rw [DpAll.len d, List.length_map]
  refine ⟨_, (pss_cons (ps_set (i := 1) sc_integers.nd rfl (Or.inr rfl) (pe_fn h_common_bottom (hr.mono (by decide)) (by rfl) (pa_cons (pv 0) pa_nil)))
      (pss_cons (ps_setLc (i := 2) (own := [("value", 3)]) (by rfl) sc_integers.nd rfl rfl (sw_true rfl rfl rfl (by decide +kernel)) (piS (K := K) rfl (pv 0)) (blkOk_by (N := ["row", "bottom", "found", "value", "by", "number"]) (sc := defScope s_integers) (own := [("value", 3)]) (by decide +kernel)) (fun _ _ _ _ _ => (pg_name (i := 3) sc_integers.nd rfl (Or.inl rfl) (Or.inr rfl))) (fun _ _ _ _ _ => pts_nil) (fun _ _ _ _ _ => (pe_op op_mulP (pe_ix (ixT (K := K) rfl) (pv 3) pe_int (fun _ _ => rfl)) (pe_op (op_fdivP B ⟨_, _, rfl, rfl, rfl, rfl, rfl⟩ (hr.mono (by decide))) (pv 1) (pe_ix (ixT (K := K) rfl) (pv 3) pe_int (fun _ _ => rfl))))))
      (pss_cons (ps_set (i := 4) sc_integers.nd rfl (Or.inr rfl) pe_int)
      (pss_cons (ps_for PassesOwn.never rfl (piL (K := K) rfl (pv 2)) (pg_name (i := 5) sc_integers.nd rfl (Or.inl rfl) (Or.inr rfl))
      (pss_one (ps_set (i := 4) sc_integers.nd rfl (Or.inr rfl) (pe_fn h_common_divisor (hr.mono (by decide)) (by rfl) (pa_cons (pv 4) (pa_cons (pv 5) pa_nil))))))
      (pss_cons (ps_if (pt_cmpR op_gt (pv 4) pe_int (nomark _)) (pss_one (ps_ret (pe_lc (own := [("number", 5)]) (by rfl) sc_integers.nd (piL (K := K) rfl (pv 2)) (blkOk_by (N := ["row", "bottom", "found", "value", "by", "number"]) (sc := defScope s_integers) (own := [("number", 5)]) (by decide +kernel)) (fun _ _ _ _ _ => (pg_name (i := 5) sc_integers.nd rfl (Or.inl rfl) (Or.inr rfl))) (fun _ _ _ _ _ => pts_nil) (fun _ _ _ _ _ => (pe_op (op_fdivP B ⟨_, _, rfl, rfl, rfl, rfl, rfl⟩ (hr.mono (by decide))) (pv 5) (pv 4)))))) pss_nil)
      (pss_one (ps_ret (pv 2)))))))), ?_⟩
  -- bottom; found
  refine ⟨_, rfl, _, rs, rfl, hv, hn, hm, ?_⟩
  refine ⟨_, rfl, a, xs, rfl, seq_or hS fun J Gd wk hG D hD => ?_⟩
  refine lc_map wk hD (fun i v _ => ∃ r, rs[i]? = some r ∧ v = .int (r.num * ((cbot rs / r.den : Nat) : Int))) (fun _ _ _ _ _ z => z) (by omega) (fun _ s1 => hG _ s1) ?_ ?_
  · rintro i x H1 H2 hi s1 hD1 ⟨rfl, ex⟩ N go
    obtain ⟨r, p, hr', rfl, q⟩ := rats_get d ex
    have q1 : SqT K H2 p (rp r) := Same.seqT s1 q
    have e2 : ((cbot rs : Nat) : Int).fdiv ((r.den : Nat) : Int) = ((cbot rs / r.den : Nat) : Int) := by
      rw [Int.fdiv_eq_ediv_of_nonneg _ (by omega)]
      rfl
    refine ⟨rfl, _, rfl, p, _, _, _, rfl, rfl, q1, at0 r, _, rfl, _, rfl, p, _, _, _, rfl, rfl, q1, at1 r, _, _, rfl, rfl, den_ne r, _, _, rfl, rfl, ?_, ?_⟩
    · show Mul r.num (((cbot rs : Nat) : Int).fdiv ((r.den : Nat) : Int))
      rw [e2]
      exact hm2 r (List.mem_of_getElem? hr')
    · refine go _ _ (Same.refl _) ⟨r, hr', ?_⟩
      show V.int (r.num * ((cbot rs : Nat) : Int).fdiv ((r.den : Nat) : Int)) = _
      rw [e2]
  · intro H1 ys s1 e1 e2 e3
    have ey : ys = iv (nums rs) := ext_of (by unfold nums; simp [e2, hl]) fun j y z hy hz => by
      obtain ⟨r, h1, rfl⟩ := e3 j y hy
      unfold nums at hz
      rw [List.getElem?_map, List.getElem?_map, h1] at hz
      exact Option.some.inj hz
    subst ey
    have hD1 : SqL K H1 D (iv (nums rs)) := sqL e1
    -- by
    refine ⟨_, rfl, D, rfl, ⟨_, hD1⟩, ?_⟩
    refine for_it walk_list (fun i σ H' => H' = H1 ∧ ∃ y z, σ = [some (.ref a), some (.int ((cbot rs : Nat) : Int)), some (.ref D), y, some (.int ((gcds ((nums rs).take i) : Nat) : Int)), z]) ⟨rfl, none, none, rfl⟩ (fun i σ H' _ ⟨e, _⟩ => by subst e; exact hD1) ?_ ?_
    · rintro i x σ H2 H3 hi ⟨rfl, y, z, rfl⟩ ⟨rfl, ex⟩
      obtain ⟨u, hu, rfl⟩ := iv_get ex
      refine ⟨_, rfl, _, rfl, _, _, rfl, rfl, y, some (.int u), ?_⟩
      have e1 : gcds ((nums rs).take (i + 1)) = Int.gcd ((gcds ((nums rs).take i) : Nat) : Int) u := foldl_take _ _ (nums rs) i u hu
      rw [e1]
      rfl
    · rintro σ H2 ⟨rfl, y, z, rfl⟩
      rw [List.length_map, List.take_length]
      refine ⟨_, rfl, _, _, rfl, rfl, _, rfl, ?_⟩
      by_cases hg : (1 : Int) < ((gcds (nums rs) : Nat) : Int)
      · rw [decide_eq_true hg]
        refine ⟨_, rfl, D, rfl, ⟨_, hD1⟩, fun D2 hD2 => ?_⟩
        refine lc_map walk_list hD2 (fun i v _ => ∃ u, (nums rs)[i]? = some u ∧ v = .int (u.fdiv ((gcds (nums rs) : Nat) : Int))) (fun _ _ _ _ _ z => z) (by rw [List.length_map]; unfold nums; rw [List.length_map]; omega) (fun _ s2 => s2.seq hD1) ?_ ?_
        · rintro i x H3 H4 hi s2 hD3 ⟨rfl, ex⟩ N go
          obtain ⟨u, hu, rfl⟩ := iv_get ex
          exact ⟨rfl, _, rfl, _, rfl, _, _, rfl, rfl, by omega, go _ _ (Same.refl _) ⟨u, hu, rfl⟩⟩
        · intro H3 ys s2 e4 e5 e6
          refine k _ _ (s1.trans s2) (s1.free hD2) ?_
          rw [e4]
          congr 2
          have : intsOf rs = (nums rs).map fun n => n.fdiv ((gcds (nums rs) : Nat) : Int) := by
            unfold intsOf
            rw [if_pos (by omega)]
          rw [this]
          refine ext_of (by simp [e5]) fun j y z hy hz => ?_
          obtain ⟨u, h1, rfl⟩ := e6 j y hy
          rw [List.getElem?_map, List.getElem?_map, h1] at hz
          exact Option.some.inj hz
      · rw [decide_eq_false hg]
        have : intsOf rs = nums rs := by
          unfold intsOf
          rw [if_neg (by omega)]
        refine ⟨_, rfl, k _ _ s1 hD ?_⟩
        rw [e1, this]

/-! ### dot -/
def spDot (K : PySem.W.Frag) : Sp := fun vs H Q _ => ∃ (v u : V) (rs ss : List Rat), vs = [v, u] ∧ Dp K H v (dRs rs) ∧ Dp K H u (dRs ss) ∧ rs.length = ss.length ∧ rs.length ≤ 1000 ∧ DotFit rs ss ∧
  ∀ p H', Same H H' → H p = none → H' p = some (.tup (rp (dsum rs ss rs.length))) → Q (.ref p) H'
theorem ok_dot {f : Addr} {fd : FuncData} (F : Df K "dot" "dot" s_dot f fd) (T : Bn mg) (h_plus : Fn P w K mg base 43 "plus" ["one", "two"] (spPlus K)) (h_times : Fn P w K mg base 43 "times" ["one", "two"] (spTimes K)) :
    FnOk P w K mg base CX0 44 f fd ["row", "other"] (spDot K) := by
  refine body_ok F sc_dot (fun vs H Q E h => by obtain ⟨v, u, rs, ss, rfl, _⟩ := h; rfl) (fun cdv A outer s H vs Q E hr h => ?_)
  obtain ⟨v, u, rs, ss, rfl, hv, hu, hl, hn, ft, k⟩ := h
  obtain ⟨a, xs, rfl, hS, d⟩ := Dp.lstI hv
  obtain ⟨b, zs, rfl, hS2, d2⟩ := Dp.lstI hu
  have l1 : xs.length = rs.length := by rw [DpAll.len d, List.length_map]
  have l2 : zs.length = ss.length := by rw [DpAll.len d2, List.length_map]
  refine ⟨_, (pss_cons (ps_set (i := 2) sc_dot.nd rfl (Or.inl rfl) (pe_tup (pa_cons pe_int (pa_cons pe_int pa_nil))))
      (pss_cons (ps_for PassesOwn.never rfl (piZ (K := K) rfl (by rfl) T.zip (pa_cons (pv 0) (pa_cons (pv 1) pa_nil)) rfl rfl) (tupG (K := K) (n := 2) rfl rfl (pgs_cons (pg_name (i := 3) sc_dot.nd rfl (Or.inl rfl) (Or.inr rfl)) (pgs_cons (pg_name (i := 4) sc_dot.nd rfl (Or.inl rfl) (Or.inr rfl)) pgs_nil)) rfl rfl)
      (pss_one (ps_if (PW.pt (pw_and (pt_cmpR op_ne (pe_ix (ixT (K := K) rfl) (pv 3) pe_int (fun _ _ => rfl)) pe_int (nomark _)) (pw_and1 (pt_cmpR op_ne (pe_ix (ixT (K := K) rfl) (pv 4) pe_int (fun _ _ => rfl)) pe_int (nomark _))))) (pss_one (ps_set (i := 2) sc_dot.nd rfl (Or.inl rfl) (pe_fn h_plus (hr.mono (by decide)) (by rfl) (pa_cons (pv 2) (pa_cons (pe_fn h_times (hr.mono (by decide)) (by rfl) (pa_cons (pv 3) (pa_cons (pv 4) pa_nil))) pa_nil))))) pss_nil)))
      (pss_one (ps_ret (pv 2))))), ?_⟩
  refine ⟨by show 2 ≤ sizeLine; decide, fun p0 hp0 => ?_⟩
  have s0 : Same H (upd H p0 (.tup [.int 0, .int 1])) := same_new hp0
  refine ⟨_, rfl, _, rfl, a, b, xs, zs, rfl, s0.seq hS, s0.seq hS2, ?_⟩
  refine for_it (walk_zip (n := rs.length) (by omega)) (fun i σ H' => Same H H' ∧ ∃ p y z, H p = none ∧ H' p = some (.tup (rp (dsum rs ss i))) ∧ σ = [some (.ref a), some (.ref b), some (.ref p), y, z])
    ⟨s0, p0, none, none, hp0, upd_same, rfl⟩ (fun i σ H' _ ⟨s1, _⟩ => ⟨s1.seq hS, s1.seq hS2⟩) ?_ ?_
  · rintro i x σ H1 H2 hi ⟨s1, p, y, z, np, hp, rfl⟩ ⟨T', x1, y1, rfl, nT, rfl, e1, e2⟩
    obtain ⟨r, p1, hr1, rfl, q1⟩ := rats_get d e1
    obtain ⟨t, p2, hr2, rfl, q2⟩ := rats_get d2 e2
    have sT : Same H1 (upd H1 T' (.tup [.ref p1, .ref p2])) := same_new nT
    have c1 : SqT K (upd H1 T' (.tup [.ref p1, .ref p2])) p1 (rp r) := Same.seqT (s1.trans sT) q1
    have c2 : SqT K (upd H1 T' (.tup [.ref p1, .ref p2])) p2 (rp t) := Same.seqT (s1.trans sT) q2
    have g1 : rs.getD i 0 = r := by simp [List.getD_eq_getElem?_getD, hr1]
    have g2 : ss.getD i 0 = t := by simp [List.getD_eq_getElem?_getD, hr2]
    obtain ⟨m1, m2⟩ := ft.t1 i hi
    obtain ⟨m3, m4, m5⟩ := ft.p1 i hi
    have eS : dsum rs ss (i + 1) = dsum rs ss i + r * t := by
      show dsum rs ss i + rs.getD i 0 * ss.getD i 0 = _
      rw [g1, g2]
    rw [g1, g2] at m1 m2 m3 m4 m5
    have skip : r.num = 0 ∨ t.num = 0 → dsum rs ss (i + 1) = dsum rs ss i := fun h => by
      rw [eS]
      rcases h with h | h
      · rw [Rat.num_eq_zero.mp h]; grind
      · rw [Rat.num_eq_zero.mp h]; grind
    refine ⟨T', [.ref p1, .ref p2], rfl, sqT upd_same, rfl, _, _, rfl, _, _, rfl, rfl, ?_⟩
    refine ⟨_, rfl, p1, _, _, _, rfl, rfl, c1, at0 r, rfl, _, rfl, ?_⟩
    by_cases n1 : r.num = 0
    · rw [decide_eq_true (congrArg V.int n1)]
      refine ⟨s1.trans sT, p, _, _, np, ?_, rfl⟩
      rw [skip (.inl n1)]
      exact sT _ _ hp
    · rw [decide_eq_false (fun z => n1 (V.int.inj z))]
      refine ⟨_, rfl, p2, _, _, _, rfl, rfl, c2, at0 t, rfl, _, rfl, ?_⟩
      by_cases n2 : t.num = 0
      · rw [decide_eq_true (congrArg V.int n2)]
        refine ⟨s1.trans sT, p, _, _, np, ?_, rfl⟩
        rw [skip (.inr n2)]
        exact sT _ _ hp
      · rw [decide_eq_false (fun z => n2 (V.int.inj z))]
        refine ⟨_, rfl, _, rfl, _, rfl, p1, p2, r, t, rfl, c1, c2, m1, m2, fun p' H3 s3 np' hp' => ?_⟩
        refine ⟨p, p', dsum rs ss i, r * t, rfl, sqT (s3 _ _ (sT _ _ hp)), sqT hp', m3, m4, m5, fun p'' H4 s4 np'' hp'' => ?_⟩
        have sA : Same H H3 := (s1.trans sT).trans s3
        refine ⟨sA.trans s4, p'', _, _, sA.free np'', ?_, rfl⟩
        rw [eS]
        exact hp''
  · rintro σ H1 ⟨s1, p, y, z, np, hp, rfl⟩
    exact ⟨_, rfl, k p H1 s1 np hp⟩
end
end K51W

set_option maxHeartbeats 200000
/-! A matrix that is changed in place: smallest_at, cleared_below. -/
namespace K51W
open PySem PySem.Spec PyProof.Rows L2 K51
section
variable {P : Program} {w : World} {K : PySem.W.Frag} {mg : Str → Option Value} {base : Heap}
theorem seq_upd {H : Hp} {p a : Addr} {xs : List V} {o : HO} (h : SqL K H p xs) (n : p ≠ a) : SqL K (upd H a o) p xs := by
  rcases h with (h | ⟨u, h⟩) | h
  · exact .inl (.inl (by rw [upd_ne n]; exact h))
  · exact .inl (.inr ⟨u, by rw [upd_ne n]; exact h⟩)
  · exact .inr h
/-- a list of rows of integers that stands at a and may be changed -/
def WkAt (K : PySem.W.Frag) (H : Hp) (a : Addr) (M : Mat) : Prop := ∃ xs : List V, H a = some (.lst xs) ∧ xs.length = M.length ∧ ∀ (i : Nat) (r : List Int), M[i]? = some r → ∃ p, xs[i]? = some (.ref p) ∧ p ≠ a ∧ SqL K H p (iv r)
theorem WkAt.same {H H' : Hp} {a : Addr} {M : Mat} (s : Same H H') (h : WkAt K H a M) : WkAt K H' a M := by
  obtain ⟨xs, h1, h2, h3⟩ := h
  exact ⟨xs, s _ _ h1, h2, fun i r hr => by obtain ⟨p, a1, a2, a3⟩ := h3 i r hr; exact ⟨p, a1, a2, s.seq a3⟩⟩
theorem getD_at {M : Mat} {i : Nat} (h : i < M.length) : M[i]? = some (M.getD i []) := by
  rw [List.getElem?_eq_getElem h]
  simp [List.getD_eq_getElem?_getD, h]
/-- a row as it stands, an item of it -/
theorem WkAt.row {H : Hp} {a : Addr} {M : Mat} (h : WkAt K H a M) {i : Nat} (hi : i < M.length) : ∃ xs p, H a = some (.lst xs) ∧ xs.length = M.length ∧ xs[i]? = some (.ref p) ∧ p ≠ a ∧ SqL K H p (iv (M.getD i [])) := by
  obtain ⟨xs, h1, h2, h3⟩ := h
  obtain ⟨p, a1, a2, a3⟩ := h3 i _ (getD_at hi)
  exact ⟨xs, p, h1, h2, a1, a2, a3⟩
theorem WkAt.set {H : Hp} {a : Addr} {M : Mat} {xs : List V} (h : WkAt K H a M) (hx : H a = some (.lst xs)) {k : Nat} (hk : k < M.length) {p : Addr} {r : List Int} (hp : p ≠ a) (hr : SqL K H p (iv r)) : WkAt K (upd H a (.lst (xs.set k (.ref p)))) a (M.set k r) := by
  obtain ⟨xs', h1, h2, h3⟩ := h
  rw [h1] at hx
  cases hx
  refine ⟨_, upd_same, by rw [List.length_set, List.length_set, h2], fun i r' hr' => ?_⟩
  by_cases e : i = k
  · subst e
    rw [List.getElem?_set_self hk] at hr'
    cases hr'
    exact ⟨p, List.getElem?_set_self (by omega), hp, seq_upd hr hp⟩
  · rw [List.getElem?_set_ne (Ne.symm e)] at hr'
    obtain ⟨q, a1, a2, a3⟩ := h3 i r' hr'
    exact ⟨q, by rw [List.getElem?_set_ne (Ne.symm e)]; exact a1, a2, seq_upd a3 a2⟩
theorem iv_at {M : Mat} {m n i j : Nat} (R : Rect m n M) (hi : i < m) (hj : j < n) : (iv (M.getD i []))[j]? = some (.int (ent M i j)) := by
  have := R.row hi
  rw [List.getElem?_map, List.getElem?_eq_getElem (by omega)]
  have key : ∀ r : List Int, r.length = n → some (V.int (r.getD j 0)) = Option.map V.int r[j]? := fun r hr => by
    rw [List.getElem?_eq_getElem (by omega)]
    simp [List.getD_eq_getElem?_getD, show j < r.length by omega]
  rw [← List.getElem?_eq_getElem]
  exact (key _ this).symm

def optV : Option Nat → V
  | none => .non
  | some b => .int (b : Int)
def spSm (K : PySem.W.Frag) : Sp := fun vs H Q _ => ∃ (a : Addr) (c s m n : Nat) (M : Mat), vs = [.ref a, .int (c : Int), .int (s : Int)] ∧ WkAt K H a M ∧ Rect m n M ∧ c < n ∧ s ≤ m ∧ m ≤ 1000 ∧ ∀ best, SmSpec M c s best → Q (optV best) H
theorem ok_smallest_at {f : Addr} {fd : FuncData} (F : Df K "smallest_at" "smallest_at" s_smallest_at f fd) (T : Bn mg) : FnOk P w K mg base CX0 41 f fd ["rows", "column", "start"] (spSm K) := by
  refine body_ok F sc_smallest_at (fun vs H Q E h => by obtain ⟨a, c, s, m, n, M, rfl, _⟩ := h; rfl) (fun cdv A outer s H vs Q E hr h => ?_)
  obtain ⟨a, c, s, m, n, M, rfl, hW, R, hc, hs, hm, k⟩ := h
  obtain ⟨xs, hx, hl, hrow⟩ := id hW
  refine ⟨_, (pss_cons (ps_set (i := 3) sc_smallest_at.nd rfl (Or.inl rfl) pe_non)
      (pss_cons (ps_for PassesOwn.never rfl (pi_range2 (by rfl) T.range (pa_cons (pv 2) (pa_cons (pe_callB (lenS (K := K) rfl) (by rfl) T.len (by decide +kernel) (pa_cons (pv 0) pa_nil)) pa_nil))) (pg_name (i := 4) sc_smallest_at.nd rfl (Or.inl rfl) (Or.inr rfl))
      (pss_cons (ps_set (i := 5) sc_smallest_at.nd rfl (Or.inl rfl) (pe_callB call_abs (by rfl) T.abs (by decide +kernel) (pa_cons (pe_ix (ixL (K := K) rfl) (pe_ix (ixL (K := K) rfl) (pv 0) (pv 4) (fun _ _ => rfl)) (pv 1) (fun _ _ => rfl)) pa_nil)))
      (pss_one (ps_if (PW.pt (pw_and (pt_cmpR op_ne (pv 5) pe_int (nomark _)) (pw_and1 (PW.pt (pw_or (pt_cmp (pc_isN (pv 3))) (pw_or1 (pt_cmpR op_lt (pv 5) (pe_callB call_abs (by rfl) T.abs (by decide +kernel) (pa_cons (pe_ix (ixL (K := K) rfl) (pe_ix (ixL (K := K) rfl) (pv 0) (pv 3) (fun _ _ => rfl)) (pv 1) (fun _ _ => rfl)) pa_nil)) (nomark _)))))))) (pss_one (ps_set (i := 3) sc_smallest_at.nd rfl (Or.inl rfl) (pv 4))) pss_nil))))
      (pss_one (ps_ret (pv 3))))), ?_⟩
  have hS : SqL K H a xs := sqL hx
  have lM : M.length = m := R.1
  have hl' : xs.length = m := by omega
  refine ⟨_, rfl, _, rfl, a, xs, rfl, .inl hS, _, _, rfl, by rw [hl']; omega, ?_⟩
  have row : ∀ i, i < m → ∃ p, xs[i]? = some (.ref p) ∧ SqL K H p (iv (M.getD i [])) := fun i hi => by
    obtain ⟨p, a1, _, a3⟩ := hrow i _ (getD_at (by omega))
    exact ⟨p, a1, a3⟩
  refine for_it walk_range (fun i σ H' => H' = H ∧ ∃ best y z, σ = [some (.ref a), some (.int (c : Int)), some (.int (s : Int)), some (optV best), y, z] ∧
      match best with
      | none => ∀ k, s ≤ k → k < s + i → ent M k c = 0
      | some b => s ≤ b ∧ b < s + i ∧ b < m ∧ ent M b c ≠ 0 ∧ ∀ k, s ≤ k → k < s + i → ent M k c ≠ 0 → (ent M b c).natAbs ≤ (ent M k c).natAbs)
    ⟨rfl, none, none, none, rfl, fun k h1 h2 => by omega⟩ (fun _ _ _ _ _ => trivial) ?_ ?_
  · rintro i x σ H1 H2 hi ⟨rfl, best, y, z, rfl, hb⟩ ⟨rfl, rfl⟩
    have hi' : s + i < m := by rw [hl'] at hi; omega
    obtain ⟨p, g1, g2⟩ := row (s + i) hi'
    have g3 := iv_at R hi' hc
    have ei : (s : Int) + (i : Int) = ((s + i : Nat) : Int) := by omega
    refine ⟨_, rfl, _, rfl, a, xs, _, _, rfl, rfl, hS, at_of ei g1, _, rfl, p, _, _, _, rfl, rfl, g2, at_of rfl g3, _, rfl, ?_⟩
    have eabs : (if ent M (s + i) c < 0 then - ent M (s + i) c else ent M (s + i) c) = ((ent M (s + i) c).natAbs : Int) := by split <;> omega
    rw [eabs]
    refine ⟨_, rfl, rfl, _, rfl, ?_⟩
    by_cases e0 : ent M (s + i) c = 0
    · have : decide (V.int ((ent M (s + i) c).natAbs : Int) = V.int 0) = true := decide_eq_true (by rw [e0]; rfl)
      rw [this]
      refine iteF (iteF ?_)
      refine ⟨rfl, best, _, _, rfl, ?_⟩
      cases best with
      | none =>
        intro k h1 h2
        by_cases e : k = s + i
        · subst e; exact e0
        · exact hb k h1 (by omega)
      | some b =>
        obtain ⟨b1, b2, b3, b4, b5⟩ := hb
        refine ⟨b1, by omega, b3, b4, fun k h1 h2 h3 => ?_⟩
        by_cases e : k = s + i
        · subst e; exact absurd e0 h3
        · exact b5 k h1 (by omega) h3
    · have : decide (V.int ((ent M (s + i) c).natAbs : Int) = V.int 0) = false := decide_eq_false (fun z => by have := V.int.inj z; omega)
      rw [this]
      refine iteT ?_
      refine ⟨_, rfl, _, rfl, ?_⟩
      have sl : [some (V.ref a), some (.int (c : Int)), some (.int (s : Int)), some (.int ((s : Int) + (i : Int))), some (.int ((s : Int) + (i : Int))), some (.int ((ent M (s + i) c).natAbs : Int))] = [some (V.ref a), some (.int (c : Int)), some (.int (s : Int)), some (optV (some (s + i))), some (.int ((s : Int) + (i : Int))), some (.int ((ent M (s + i) c).natAbs : Int))] := by
        show _ = [some (V.ref a), some (.int (c : Int)), some (.int (s : Int)), some (.int ((s + i : Nat) : Int)), some (.int ((s : Int) + (i : Int))), some (.int ((ent M (s + i) c).natAbs : Int))]
        rw [← ei]
      cases best with
      | none =>
        refine iteT (iteT ?_)
        refine ⟨_, rfl, rfl, some (s + i), some (.int ((s : Int) + (i : Int))), some (.int ((ent M (s + i) c).natAbs : Int)), sl, by omega, by omega, hi', e0, fun k h1 h2 h3 => ?_⟩
        by_cases e : k = s + i
        · subst e; exact Nat.le_refl _
        · exact absurd (hb k h1 (by omega)) h3
      | some b =>
        obtain ⟨b1, b2, b3, b4, b5⟩ := hb
        obtain ⟨p', g1', g2'⟩ := row b b3
        have g3' := iv_at R b3 hc
        refine iteF ?_
        refine ⟨_, rfl, _, rfl, _, rfl, a, xs, _, _, rfl, rfl, hS, at_of rfl g1', _, rfl, p', _, _, _, rfl, rfl, g2', at_of rfl g3', _, rfl, ?_⟩
        have eabs' : (if ent M b c < 0 then - ent M b c else ent M b c) = ((ent M b c).natAbs : Int) := by split <;> omega
        rw [eabs']
        refine ⟨_, _, rfl, rfl, _, rfl, ?_⟩
        by_cases lt : ((ent M (s + i) c).natAbs : Int) < ((ent M b c).natAbs : Int)
        · rw [decide_eq_true lt]
          refine ⟨_, rfl, rfl, some (s + i), some (.int ((s : Int) + (i : Int))), some (.int ((ent M (s + i) c).natAbs : Int)), sl, by omega, by omega, hi', e0, fun k h1 h2 h3 => ?_⟩
          by_cases e : k = s + i
          · subst e; exact Nat.le_refl _
          · have := b5 k h1 (by omega) h3; omega
        · rw [decide_eq_false lt]
          refine ⟨rfl, some b, _, _, rfl, b1, by omega, b3, b4, fun k h1 h2 h3 => ?_⟩
          by_cases e : k = s + i
          · subst e; omega
          · exact b5 k h1 (by omega) h3
  · rintro σ H1 ⟨rfl, best, y, z, rfl, hb⟩
    refine ⟨_, rfl, k best ?_⟩
    have en : s + ((xs.length : Int) - (s : Int)).toNat = m := by rw [hl']; omega
    rw [en] at hb
    cases best with
    | none => exact fun k h1 h2 => hb k h1 (by omega)
    | some b =>
      obtain ⟨b1, b2, b3, b4, b5⟩ := hb
      exact ⟨b1, by omega, b4, fun k h1 h2 h3 => b5 k h1 (by omega) h3⟩
end
end K51W

set_option maxHeartbeats 200000
/-! cleared_below. -/
namespace K51W
open PySem PySem.Spec PyProof.Rows L2 K51
section
variable {P : Program} {w : World} {K : PySem.W.Frag} {mg : Str → Option Value} {base : Heap}
theorem ix_lt {n j : Nat} (h : j < n) : ixN n (j : Int) = some j := by
  have h2 : (j : Int) < (n : Int) := by omega
  simp [ixN, h2]
theorem mem_ent {M : Mat} {i : Nat} {x : Int} (h : x ∈ M.getD i []) : ∃ j, ent M i j = x := by
  obtain ⟨j, hj, e⟩ := List.getElem_of_mem h
  refine ⟨j, ?_⟩
  have key : ∀ (r : List Int) (hj : j < r.length), r.getD j 0 = r[j] := fun r hj => by simp [List.getD_eq_getElem?_getD, hj]
  rw [← e]
  exact key _ hj
theorem Bd.mul {e : Nat} {M : Mat} (h : Bd e M) (he : e ≤ 66900000) {a b : Int} (ha : a.natAbs < 2 ^ e) (hb : b ≠ 0) {i : Nat} : ∀ x ∈ M.getD i [], Mul (near a b) x := fun x hx => by
  obtain ⟨j, rfl⟩ := mem_ent hx
  refine .inr (.inr ⟨e + 1, e, ?_, h i j, by omega⟩)
  have := near_size a hb
  rw [Nat.pow_succ]
  have : 0 < 2 ^ e := Nat.two_pow_pos e
  omega
def spCl (K : PySem.W.Frag) : Sp := fun vs H Q _ => ∃ (a : Addr) (c z m n k e : Nat) (H0 : Hp) (M : Mat) (Post : Bool → Mat → Prop), vs = [.ref a, .int (c : Int), .int (z : Int)] ∧ Same H0 H ∧ H0 a = none ∧ WkAt K H a M ∧ Rect m n M ∧ c < n ∧ z < m ∧ m ≤ 1000 ∧ n ≤ 1000 ∧ e ≤ 66900000 ∧
  CBOk e c z k M Post ∧ ∀ b M' H', Same H0 H' → WkAt K H' a M' → Rect m n M' → Post b M' → Q (.bl b) H'
theorem ok_cleared_below {f : Addr} {fd : FuncData} (F : Df K "cleared_below" "cleared_below" s_cleared_below f fd) (T : Bn mg) (h_smallest_at : Fn P w K mg base 41 "smallest_at" ["rows", "column", "start"] (spSm K)) (h_nearest : Fn P w K mg base 41 "nearest" ["one", "two"] spNear)
    (h_less_multiple : Fn P w K mg base 41 "less_multiple" ["row", "by", "other"] (spLess K)) : FnOk P w K mg base CX0 42 f fd ["work", "column", "place"] (spCl K) := by
  refine body_ok F sc_cleared_below (fun vs H Q E h => by obtain ⟨a, c, z, m, n, k, e, H0, M, Post, rfl, _⟩ := h; rfl) (fun cdv A outer s H vs Q E hr h => ?_)
  obtain ⟨a, c, z, m, n, k, e, H0, M, Post, rfl, s0, ha, hW, R, hc, hz, hm, hn, he, hk, fin⟩ := h
  refine ⟨_, (pss_one (ps_while PassesOwn.never (pt_val pe_bl) (pss_cons (ps_set (i := 3) sc_cleared_below.nd rfl (Or.inl rfl) (pe_fn h_smallest_at (hr.mono (by decide)) (by rfl) (pa_cons (pv 0) (pa_cons (pv 1) (pa_cons (pv 2) pa_nil)))))
      (pss_cons (ps_if (pt_cmp (pc_isN (pv 3))) (pss_one (ps_ret pe_bl)) pss_nil)
      (pss_cons (ps_asg (pe_tup (pa_cons (pe_ix (ixL (K := K) rfl) (pv 0) (pv 3) (fun _ _ => rfl)) (pa_cons (pe_ix (ixL (K := K) rfl) (pv 0) (pv 2) (fun _ _ => rfl)) pa_nil))) (tupG (K := K) (n := 2) rfl rfl (pgs_cons (pg_sub (pv 0) (pv 2) set_list) (pgs_cons (pg_sub (pv 0) (pv 3) set_list) pgs_nil)) rfl rfl))
      (pss_cons (ps_set (i := 4) sc_cleared_below.nd rfl (Or.inl rfl) (pe_ix (ixL (K := K) rfl) (pv 0) (pv 2) (fun _ _ => rfl)))
      (pss_cons (ps_for PassesOwn.never rfl (pi_range2 (by rfl) T.range (pa_cons (pe_op op_add (pv 2) pe_int) (pa_cons (pe_callB (lenS (K := K) rfl) (by rfl) T.len (by decide +kernel) (pa_cons (pv 0) pa_nil)) pa_nil))) (pg_name (i := 5) sc_cleared_below.nd rfl (Or.inl rfl) (Or.inr rfl))
      (pss_one (ps_if (pt_cmpR op_ne (pe_ix (ixL (K := K) rfl) (pe_ix (ixL (K := K) rfl) (pv 0) (pv 5) (fun _ _ => rfl)) (pv 1) (fun _ _ => rfl)) pe_int (nomark _)) (pss_one (ps_asg (pe_fn h_less_multiple (hr.mono (by decide)) (by rfl) (pa_cons (pe_ix (ixL (K := K) rfl) (pv 0) (pv 5) (fun _ _ => rfl)) (pa_cons (pe_fn h_nearest (hr.mono (by decide)) (by rfl) (pa_cons (pe_ix (ixL (K := K) rfl) (pe_ix (ixL (K := K) rfl) (pv 0) (pv 5) (fun _ _ => rfl)) (pv 1) (fun _ _ => rfl)) (pa_cons (pe_ix (ixL (K := K) rfl) (pv 4) (pv 1) (fun _ _ => rfl)) pa_nil))) (pa_cons (pv 4) pa_nil)))) (pg_sub (pv 0) (pv 5) set_list))) pss_nil)))
      (pss_one (ps_if (pt_cmp (pc_isN (pe_fn h_smallest_at (hr.mono (by decide)) (by rfl) (pa_cons (pv 0) (pa_cons (pv 1) (pa_cons (pe_op op_add (pv 2) pe_int) pa_nil)))))) (pss_one (ps_ret pe_bl)) pss_nil))))))))), ?_⟩
  refine ⟨fun k σ H' => ∃ M y1 y2 y3, σ = [some (.ref a), some (.int (c : Int)), some (.int (z : Int)), y1, y2, y3] ∧ Same H0 H' ∧ WkAt K H' a M ∧ Rect m n M ∧ CBOk e c z k M Post, ⟨k, M, none, none, none, rfl, s0, hW, R, hk⟩, ?_⟩
  rintro k σ H1 ⟨M, y1, y2, y3, rfl, s1, hW, R, hk⟩
  have lM : M.length = m := R.1
  refine ⟨_, rfl, fun σ' H'' => ∃ k', k' < k ∧ ∃ M y1 y2 y3, σ' = [some (.ref a), some (.int (c : Int)), some (.int (z : Int)), y1, y2, y3] ∧ Same H0 H'' ∧ WkAt K H'' a M ∧ Rect m n M ∧ CBOk e c z k' M Post, fun _ _ z => z, ?_⟩
  refine ⟨_, rfl, _, rfl, _, rfl, a, c, z, m, n, M, rfl, hW, R, hc, by omega, hm, fun best hb => ?_⟩
  cases k with
  | zero => exact hk.elim
  | succ k =>
  cases best with
  | none =>
    refine ⟨_, rfl, ?_⟩
    exact ⟨_, rfl, fin _ _ _ s1 hW R (hk.1 hb)⟩
  | some b =>
    obtain ⟨hB, hT, hN⟩ := hk.2 b hb
    obtain ⟨b1, b2, b3, b4⟩ := hb
    have hbm : b < m := by omega
    refine ⟨_, rfl, _, rfl, ?_⟩
    obtain ⟨xs, hx, hl, hrow⟩ := id hW
    obtain ⟨pb, gb, nb, qb⟩ := hrow b _ (getD_at b2)
    obtain ⟨pz, gz, nz, qz⟩ := hrow z _ (getD_at (by omega))
    have hS : SqL K H1 a xs := sqL hx
    -- the swap
    refine ⟨_, rfl, _, rfl, a, xs, _, _, rfl, rfl, hS, at_of rfl gb, _, rfl, _, rfl, a, xs, _, _, rfl, rfl, hS, at_of rfl gz, by show 2 ≤ sizeLine; decide, fun T0 hT0 => ?_⟩
    refine ⟨T0, [.ref pb, .ref pz], rfl, sqT upd_same, rfl, _, _, rfl, _, rfl, _, rfl, a, xs, _, z, rfl, rfl, by rw [upd_ne (ne_of_none hx hT0)]; exact hx, ?_, ?_⟩
    · rw [hl, lM]; exact ix_lt hz
    refine ⟨_, _, rfl, _, rfl, _, rfl, a, _, _, b, rfl, rfl, upd_same, by rw [List.length_set, hl, lM]; exact ix_lt hbm, rfl, ?_⟩
    have sT : Same H1 (upd H1 T0 (HO.tup [V.ref pb, V.ref pz])) := same_new hT0
    have hW1 := (hW.same sT).set (k := z) (sT _ _ hx) (by omega) nb (sT.seq qb)
    have hW2 := hW1.set (k := b) upd_same (by rw [List.length_set]; omega) nz (seq_upd (sT.seq qz) nz)
    have s2 : Same H0 (upd (upd (upd H1 T0 (HO.tup [V.ref pb, V.ref pz])) a (HO.lst (xs.set z (V.ref pb)))) a (HO.lst ((xs.set z (V.ref pb)).set b (V.ref pz)))) := same_mut (same_mut (s1.trans sT) ha) ha
    revert hW2 s2
    generalize upd (upd (upd H1 T0 (HO.tup [V.ref pb, V.ref pz])) a (HO.lst (xs.set z (V.ref pb)))) a (HO.lst ((xs.set z (V.ref pb)).set b (V.ref pz))) = H2
    intro hW2 s2
    have R2 : Rect m n (swp2 M z b) := R.swp2 hz hbm
    rw [show (M.set z (M.getD b [])).set b (M.getD z []) = swp2 M z b from rfl] at hW2
    have hp : ent (swp2 M z b) z c ≠ 0 := by
      rw [ent_swp2 R hz hbm]
      unfold swp
      rw [if_pos rfl]
      exact b3
    clear hW1 hrow hS gb gz nb nz qb qz hx hl
    rw [lM] at hT hN hB
    revert hT hN hB hW2 R2 hp
    generalize swp2 M z b = M2
    intro hB hT hN hW2 R2 hp
    -- lead
    obtain ⟨xs2, pl, hx2, hl2, gl, nl, ql⟩ := hW2.row (i := z) (by rw [R2.1]; exact hz)
    refine ⟨_, rfl, _, rfl, a, xs2, _, _, rfl, rfl, sqL hx2, at_of rfl gl, ?_⟩
    -- the walk
    refine ⟨_, rfl, _, _, rfl, rfl, _, rfl, a, xs2, rfl, .inl (sqL hx2), _, _, rfl, by rw [hl2, R2.1]; omega, ?_⟩
    refine for_it walk_range (fun t σ H' => ∃ y, σ = [some (.ref a), some (.int (c : Int)), some (.int (z : Int)), some (.int (b : Int)), some (.ref pl), y] ∧ Same H0 H' ∧ WkAt K H' a (passTo c z M2 t) ∧ SqL K H' pl (iv (M2.getD z [])))
      ⟨y3, rfl, s2, hW2, ql⟩ (fun _ _ _ _ _ => trivial) ?_ ?_
    · rintro t x σ H3 H4 ht ⟨y, rfl, s3, hW3, ql3⟩ ⟨rfl, rfl⟩
      have htm : z + 1 + t < m := by rw [hl2, R2.1] at ht; omega
      have R3 : Rect m n (passTo c z M2 t) := passTo_rect R2 hz t (by omega)
      have hB3 := hB t (by omega)
      have eL : (passTo c z M2 t).getD z [] = M2.getD z [] := passTo_above t z (Nat.le_refl _)
      have hp3 : ent (passTo c z M2 t) z c ≠ 0 := by
        show ((passTo c z M2 t).getD z []).getD c 0 ≠ 0
        rw [eL]
        exact hp
      obtain ⟨xs3, p, hx3, hl3, g3, n3, q3⟩ := hW3.row (i := z + 1 + t) (by rw [R3.1]; exact htm)
      have ei : (z : Int) + 1 + (t : Int) = ((z + 1 + t : Nat) : Int) := by omega
      have c3 := iv_at R3 htm hc
      have cl : (iv (M2.getD z []))[c]? = some (.int (ent (passTo c z M2 t) z c)) := by
        rw [← eL]
        exact iv_at R3 hz hc
      have hS3 := sqL (K := K) hx3
      have eP : passTo c z M2 (t + 1) = if ent (passTo c z M2 t) (z + 1 + t) c ≠ 0 then tk (passTo c z M2 t) (z + 1 + t) (near (ent (passTo c z M2 t) (z + 1 + t) c) (ent (passTo c z M2 t) z c)) z else passTo c z M2 t := rfl
      refine ⟨_, rfl, _, rfl, a, xs3, _, _, rfl, rfl, hS3, at_of ei g3, _, rfl, p, _, _, _, rfl, rfl, q3, at_of rfl c3, rfl, _, rfl, ?_⟩
      by_cases e0 : ent (passTo c z M2 t) (z + 1 + t) c = 0
      · rw [decide_eq_true (congrArg V.int e0)]
        refine ⟨_, rfl, s3, ?_, ql3⟩
        rw [eP, if_neg (fun h => h e0)]
        exact hW3
      · rw [decide_eq_false (fun h => e0 (V.int.inj h))]
        refine ⟨_, rfl, _, rfl, a, xs3, _, _, rfl, rfl, hS3, at_of ei g3, ?_⟩
        refine ⟨_, rfl, _, rfl, a, xs3, _, _, rfl, rfl, hS3, at_of ei g3, _, rfl, p, _, _, _, rfl, rfl, q3, at_of rfl c3, ?_⟩
        refine ⟨_, rfl, _, rfl, pl, _, _, _, rfl, rfl, ql3, at_of rfl cl, _, _, rfl, hp3, ?_⟩
        refine ⟨_, rfl, p, pl, _, _, _, rfl, q3, ql3, ?_, ?_, ?_, fun p' H5 s5 np' hp' => ?_⟩
        · rw [R3.row htm, R2.row hz]
        · rw [R3.row htm]; exact hn
        · rw [← eL]
          exact Bd.mul hB3 he (hB3 _ _) hp3
        · refine ⟨_, rfl, _, rfl, a, xs3, _, z + 1 + t, rfl, rfl, s5 _ _ hx3, by rw [hl3, R3.1, ei]; exact ix_lt htm, ?_⟩
          have na : p' ≠ a := (ne_of_none hx3 np').symm
          refine ⟨_, rfl, same_mut (s3.trans s5) ha, ?_, seq_upd (s5.seq ql3) nl⟩
          rw [eP, if_pos e0]
          refine (hW3.same s5).set (s5 _ _ hx3) (by rw [R3.1]; exact htm) na (sqL ?_)
          rw [eL]
          exact hp'
    · rintro σ H3 ⟨y, rfl, s3, hW3, ql3⟩
      have en : ((xs2.length : Int) - ((z : Int) + 1)).toNat = m - 1 - z := by rw [hl2, R2.1]; omega
      rw [en] at hW3
      have R3 : Rect m n (passTo c z M2 (m - 1 - z)) := passTo_rect R2 hz _ (by omega)
      have ez : (z : Int) + 1 = ((z + 1 : Nat) : Int) := by omega
      refine ⟨_, rfl, _, rfl, _, rfl, _, _, rfl, rfl, a, c, z + 1, m, n, _, by rw [← ez]; rfl, hW3, R3, hc, by omega, hm, fun best hb => ?_⟩
      refine ⟨_, rfl, ?_⟩
      cases best with
      | none => exact fin _ _ _ s3 hW3 R3 (hT hb)
      | some b' => exact ⟨k, Nat.lt_succ_self _, _, _, _, _, rfl, s3, hW3, R3, hN b' hb⟩
end
end K51W

set_option maxHeartbeats 200000
/-! formed. -/
namespace K51W
open PySem PySem.Spec PyProof.Rows L2 K51
section
variable {P : Program} {w : World} {K : PySem.W.Frag} {mg : Str → Option Value} {base : Heap}
theorem seq_cut {A B : TS} {D : Ends} {σ : Sto} {H : Hp} (I : Sto → Hp → Prop) (h1 : ∀ N : Sto → Hp → Prop, (∀ σ' H', I σ' H' → N σ' H') → A { D with nx := N } σ H) (h2 : ∀ σ' H', I σ' H' → B D σ' H') : tSeq A B D σ H := h1 _ h2
theorem redTo_below {c z : Nat} {M : Mat} : ∀ n i, n ≤ i → (redTo c z M n).getD i [] = M.getD i []
  | 0, _, _ => rfl
  | n + 1, i, hi => by
    have ih := redTo_below (c := c) (z := z) (M := M) n i (by omega)
    simp only [redTo]
    split
    · rw [← ih]
      unfold tk
      simp only [List.getD_eq_getElem?_getD]
      rw [List.getElem?_set_ne (by omega)]
    · exact ih
theorem Bd.mulq {e : Nat} {M : Mat} (h : Bd e M) (he : e ≤ 66900000) {a b : Int} (ha : a.natAbs < 2 ^ e) (hb : b ≠ 0) {i : Nat} : ∀ x ∈ M.getD i [], Mul (a.fdiv b) x := fun x hx => by
  obtain ⟨j, rfl⟩ := mem_ent hx
  exact .inr (.inr ⟨e, e, Nat.lt_of_le_of_lt (natAbs_fdiv_le a b) ha, h i j, by omega⟩)
def spFo (K : PySem.W.Frag) : Sp := fun vs H Q _ => ∃ (a : Addr) (wide m n e : Nat) (H0 : Hp) (M : Mat) (Post : Nat → Mat → Prop), vs = [.ref a, .int (wide : Int)] ∧ Same H0 H ∧ H0 a = none ∧ WkAt K H a M ∧ Rect m n M ∧ wide ≤ n ∧ m ≤ 1000 ∧ n ≤ 1000 ∧ e ≤ 66900000 ∧
  FOk e wide 0 0 M Post ∧ ∀ s M' H', Same H0 H' → WkAt K H' a M' → Rect m n M' → Post s M' → Q .non H'
theorem ok_formed {f : Addr} {fd : FuncData} (F : Df K "formed" "formed" s_formed f fd) (T : Bn mg) (B : Big P base) (h_cleared_below : Fn P w K mg base 42 "cleared_below" ["work", "column", "place"] (spCl K))
    (h_less_multiple : Fn P w K mg base 41 "less_multiple" ["row", "by", "other"] (spLess K)) : FnOk P w K mg base CX0 43 f fd ["work", "wide"] (spFo K) := by
  refine body_ok F sc_formed (fun vs H Q E h => by obtain ⟨a, wide, m, n, e, H0, M, Post, rfl, _⟩ := h; rfl) (fun cdv A outer s H vs Q E hr h => ?_)
  obtain ⟨a, wide, m, n, e, H0, M, Post, rfl, s0, ha, hW, R, hw, hm, hn, he, hk, fin⟩ := h
  refine ⟨_, (pss_cons (ps_set (i := 2) sc_formed.nd rfl (Or.inl rfl) pe_int)
      (pss_one (ps_for PassesOwn.never rfl (pi_range1 (by rfl) T.range (pa_cons (pv 1) pa_nil)) (pg_name (i := 3) sc_formed.nd rfl (Or.inl rfl) (Or.inr rfl))
      (pss_cons (ps_if (PW.pt (pw_or (pt_cmpR op_eq (pv 2) (pe_callB (lenS (K := K) rfl) (by rfl) T.len (by decide +kernel) (pa_cons (pv 0) pa_nil)) (nomark _)) (pw_or1 (pt_not (pt_val (pe_fn h_cleared_below (hr.mono (by decide)) (by rfl) (pa_cons (pv 0) (pa_cons (pv 3) (pa_cons (pv 2) pa_nil))))))))) (pss_one ps_continue) pss_nil)
      (pss_cons (ps_if (pt_cmpR op_lt (pe_ix (ixL (K := K) rfl) (pe_ix (ixL (K := K) rfl) (pv 0) (pv 2) (fun _ _ => rfl)) (pv 3) (fun _ _ => rfl)) pe_int (nomark _)) (pss_one (ps_asg (pe_lc (own := [("item", 4)]) (by rfl) sc_formed.nd (piL (K := K) rfl (pe_ix (ixL (K := K) rfl) (pv 0) (pv 2) (fun _ _ => rfl))) (blkOk_by (N := ["work", "wide", "place", "column", "item", "lead", "k", "by"]) (sc := defScope s_formed) (own := [("item", 4)]) (by decide +kernel)) (fun _ _ _ _ _ => (pg_name (i := 4) sc_formed.nd rfl (Or.inl rfl) (Or.inr rfl))) (fun _ _ _ _ _ => pts_nil) (fun _ _ _ _ _ => (pe_un un_neg (pv 4)))) (pg_sub (pv 0) (pv 2) set_list))) pss_nil)
      (pss_cons (ps_set (i := 5) sc_formed.nd rfl (Or.inl rfl) (pe_ix (ixL (K := K) rfl) (pv 0) (pv 2) (fun _ _ => rfl)))
      (pss_cons (ps_for PassesOwn.never rfl (pi_range1 (by rfl) T.range (pa_cons (pv 2) pa_nil)) (pg_name (i := 6) sc_formed.nd rfl (Or.inl rfl) (Or.inr rfl))
      (pss_cons (ps_set (i := 7) sc_formed.nd rfl (Or.inl rfl) (pe_op (op_fdivP B ⟨_, _, rfl, rfl, rfl, rfl, rfl⟩ (hr.mono (by decide))) (pe_ix (ixL (K := K) rfl) (pe_ix (ixL (K := K) rfl) (pv 0) (pv 6) (fun _ _ => rfl)) (pv 3) (fun _ _ => rfl)) (pe_ix (ixL (K := K) rfl) (pv 5) (pv 3) (fun _ _ => rfl))))
      (pss_one (ps_if (pt_cmpR op_ne (pv 7) pe_int (nomark _)) (pss_one (ps_asg (pe_fn h_less_multiple (hr.mono (by decide)) (by rfl) (pa_cons (pe_ix (ixL (K := K) rfl) (pv 0) (pv 6) (fun _ _ => rfl)) (pa_cons (pv 7) (pa_cons (pv 5) pa_nil)))) (pg_sub (pv 0) (pv 6) set_list))) pss_nil))))
      (pss_one (ps_aug (i := 2) sc_formed.nd rfl (Or.inl rfl) pe_int ip_add))))))))), ?_⟩
  refine ⟨_, rfl, wide, rfl, by omega, by omega, ?_⟩
  refine for_it (n := wide) walk_range (fun i σ H' => ∃ (M : Mat) (s : Nat) (y3 y4 y5 y6 y7 : Option V), σ = [some (.ref a), some (.int (wide : Int)), some (.int (s : Int)), y3, y4, y5, y6, y7] ∧ Same H0 H' ∧ WkAt K H' a M ∧ Rect m n M ∧ s ≤ m ∧ FOk e (wide - i) i s M Post)
    ⟨M, 0, none, none, none, none, none, rfl, s0, hW, R, Nat.zero_le _, hk⟩ (fun _ _ _ _ _ => trivial) ?_ ?_
  · rintro i x σ H1 H2 hi ⟨M1, s, y3, y4, y5, y6, y7, rfl, s1, hW1, R1, hs, hF⟩ ⟨rfl, rfl⟩
    obtain ⟨xs, hx, hl, hrow⟩ := id hW1
    have lM : M1.length = m := R1.1
    rw [show wide - i = (wide - (i + 1)) + 1 by omega] at hF
    have hF : if s = M1.length then FOk e (wide - (i + 1)) (i + 1) s M1 Post else
      ∃ n, CBOk e i s n M1 fun b M' => if b = true then (M'.length = M1.length ∧ ent M' s i ≠ 0 ∧ (∀ t, t ≤ s → Bd e (redTo i s (nrm M' s i) t)) ∧ FOk e (wide - (i + 1)) (i + 1) (s + 1) (redTo i s (nrm M' s i) s) Post) else FOk e (wide - (i + 1)) (i + 1) s M' Post := hF
    refine ⟨_, rfl, _, rfl, a, xs, rfl, .inl (sqL hx), ?_⟩
    have e0 : (0 : Int) + (i : Int) = (i : Int) := by omega
    by_cases hsm : s = m
    · have : decide (V.int (s : Int) = V.int (xs.length : Int)) = true := decide_eq_true (by rw [hl, lM, hsm])
      refine ⟨rfl, _, rfl, ?_⟩
      rw [this]
      refine iteT (iteT ?_)
      rw [if_pos (by rw [lM]; exact hsm)] at hF
      exact ⟨M1, s, _, _, _, _, _, rfl, s1, hW1, R1, hs, hF⟩
    · have : decide (V.int (s : Int) = V.int (xs.length : Int)) = false := decide_eq_false (fun h => hsm (by have := V.int.inj h; omega))
      refine ⟨rfl, _, rfl, ?_⟩
      rw [this]
      rw [if_neg (by rw [lM]; exact hsm)] at hF
      obtain ⟨k, hC⟩ := hF
      refine iteF ?_
      refine ⟨_, rfl, _, rfl, _, rfl, a, i, s, m, n, k, e, H0, M1, _, congrArg (fun z => [V.ref a, V.int z, V.int (s : Int)]) e0, s1, ha, hW1, R1, by omega, by omega, hm, hn, he, hC, fun b M2 H3 s3 hW2 R2 hP => ?_⟩
      have hs' : s < m := by omega
      have hi' : i < n := by omega
      refine ⟨_, rfl, ?_⟩
      cases b with
      | false => exact iteT ⟨M2, s, _, _, _, _, _, rfl, s3, hW2, R2, hs, hP⟩
      | true =>
        rw [if_pos rfl] at hP
        obtain ⟨_, hp, hB, hF⟩ := hP
        refine iteF ?_
        dsimp only [tNext]
        refine seq_cut (fun σ H' => ∃ (y4 y5 y6 y7 : Option V), σ = [some (.ref a), some (.int (wide : Int)), some (.int (s : Int)), some (.int (0 + (i : Int))), y4, y5, y6, y7] ∧ Same H0 H' ∧ WkAt K H' a (nrm M2 s i)) (fun N hN => ?_) ?_
        · obtain ⟨xs2, pl, hx2, hl2, gl, nl, ql⟩ := hW2.row (i := s) (by rw [R2.1]; exact hs')
          have cl := iv_at R2 hs' hi'
          refine ⟨_, rfl, _, rfl, a, xs2, _, _, rfl, rfl, sqL hx2, at_of rfl gl, _, rfl, pl, _, _, _, rfl, rfl, ql, at_of e0 cl, _, _, rfl, rfl, _, rfl, ?_⟩
          by_cases hn0 : ent M2 s i < 0
          · rw [decide_eq_true hn0]
            refine ⟨_, rfl, _, rfl, a, xs2, _, _, rfl, rfl, sqL hx2, at_of rfl gl, pl, rfl, ⟨_, ql⟩, fun D hD => ?_⟩
            refine lc_map walk_list hD (fun j v _ => ∃ u, (M2.getD s [])[j]? = some u ∧ v = .int (-u)) (fun _ _ _ _ _ z => z) (by rw [List.length_map, R2.row hs']; omega) (fun _ s5 => s5.seq ql) ?_ ?_
            · rintro j x H4 H5 hj s5 hD5 ⟨rfl, ex⟩ Nx go
              obtain ⟨u, hu, rfl⟩ := iv_get ex
              exact ⟨rfl, _, rfl, _, rfl, go _ _ (Same.refl _) ⟨u, hu, rfl⟩⟩
            · intro H4 ys s5 e1 e2 e3
              refine ⟨_, rfl, _, rfl, a, xs2, _, s, rfl, rfl, s5 _ _ hx2, by rw [hl2, R2.1]; exact ix_lt hs', ?_⟩
              refine hN _ _ ⟨_, _, _, _, rfl, same_mut (s3.trans s5) ha, ?_⟩
              unfold nrm
              rw [if_pos hn0]
              refine (hW2.same s5).set (s5 _ _ hx2) (by rw [R2.1]; exact hs') (ne_of_none hx2 hD).symm (sqL ?_)
              rw [e1]
              congr 2
              refine ext_of (by rw [e2, List.length_map, List.length_map, List.length_map]) fun j y z hy hz => ?_
              obtain ⟨u, hu, rfl⟩ := e3 j y hy
              rw [List.getElem?_map, List.getElem?_map, hu] at hz
              exact Option.some.inj hz
          · rw [decide_eq_false hn0]
            refine hN _ _ ⟨_, _, _, _, rfl, s3, ?_⟩
            unfold nrm
            rw [if_neg hn0]
            exact hW2
        · rintro σ H4 ⟨y4, y5, y6, y7, rfl, s4, hW4⟩
          have R3 := nrm_rect (c := i) R2 hs'
          have hp3 : ent (nrm M2 s i) s i ≠ 0 := by
            rw [nrm_ent R2 hs']
            split <;> omega
          revert hW4 hB hF R3 hp3
          generalize nrm M2 s i = M3
          intro hB hF hW4 R3 hp3
          obtain ⟨xs2, pl, hx2, hl2, gl, nl, ql⟩ := hW4.row (i := s) (by rw [R3.1]; exact hs')
          refine ⟨_, rfl, _, rfl, a, xs2, _, _, rfl, rfl, sqL hx2, at_of rfl gl, ?_⟩
          refine ⟨_, rfl, s, rfl, by omega, by omega, ?_⟩
          refine for_it (n := s) walk_range (fun t σ H' => ∃ (y4 y6 y7 : Option V), σ = [some (.ref a), some (.int (wide : Int)), some (.int (s : Int)), some (.int (0 + (i : Int))), y4, some (.ref pl), y6, y7] ∧ Same H0 H' ∧ WkAt K H' a (redTo i s M3 t) ∧ SqL K H' pl (iv (M3.getD s [])))
            ⟨y4, y6, y7, rfl, s4, hW4, ql⟩ (fun _ _ _ _ _ => trivial) ?_ ?_
          · rintro t x σ H5 H6 ht ⟨y4, y6, y7, rfl, s5, hW5, ql5⟩ ⟨rfl, rfl⟩
            have htm : t < m := by omega
            have R5 : Rect m n (redTo i s M3 t) := redTo_rect R3 hs' t (by omega)
            have hB5 := hB t (by omega)
            have eL : (redTo i s M3 t).getD s [] = M3.getD s [] := redTo_below t s (by omega)
            have hp5 : ent (redTo i s M3 t) s i ≠ 0 := by
              show ((redTo i s M3 t).getD s []).getD i 0 ≠ 0
              rw [eL]
              exact hp3
            obtain ⟨xs5, p, hx5, hl5, g5, n5, q5⟩ := hW5.row (i := t) (by rw [R5.1]; exact htm)
            have ei : (0 : Int) + (t : Int) = (t : Int) := by omega
            have c5 := iv_at R5 htm hi'
            have cl : (iv (M3.getD s []))[i]? = some (.int (ent (redTo i s M3 t) s i)) := by
              rw [← eL]
              exact iv_at R5 hs' hi'
            have hS5 := sqL (K := K) hx5
            have eP : redTo i s M3 (t + 1) = if (ent (redTo i s M3 t) t i).fdiv (ent (redTo i s M3 t) s i) ≠ 0 then tk (redTo i s M3 t) t ((ent (redTo i s M3 t) t i).fdiv (ent (redTo i s M3 t) s i)) s else redTo i s M3 t := rfl
            refine ⟨_, rfl, _, rfl, a, xs5, _, _, rfl, rfl, hS5, at_of ei g5, _, rfl, p, _, _, _, rfl, rfl, q5, at_of e0 c5, ?_⟩
            refine ⟨_, rfl, _, rfl, pl, _, _, _, rfl, rfl, ql5, at_of e0 cl, _, _, rfl, rfl, hp5, ?_⟩
            refine ⟨_, rfl, rfl, _, rfl, ?_⟩
            by_cases q0 : (ent (redTo i s M3 t) t i).fdiv (ent (redTo i s M3 t) s i) = 0
            · rw [decide_eq_true (congrArg V.int q0)]
              refine ⟨_, _, _, rfl, s5, ?_, ql5⟩
              rw [eP, if_neg (fun h => h q0)]
              exact hW5
            · rw [decide_eq_false (fun h => q0 (V.int.inj h))]
              refine ⟨_, rfl, _, rfl, a, xs5, _, _, rfl, rfl, hS5, at_of ei g5, ?_⟩
              refine ⟨_, rfl, _, rfl, p, pl, _, _, _, rfl, q5, ql5, ?_, ?_, ?_, fun p' H7 s7 np' hp' => ?_⟩
              · rw [R5.row htm, R3.row hs']
              · rw [R5.row htm]; exact hn
              · rw [← eL]
                exact Bd.mulq hB5 he (hB5 _ _) hp5
              · refine ⟨_, rfl, _, rfl, a, xs5, _, t, rfl, rfl, s7 _ _ hx5, by rw [hl5, R5.1, ei]; exact ix_lt htm, ?_⟩
                have na : p' ≠ a := (ne_of_none hx5 np').symm
                refine ⟨_, _, _, rfl, same_mut (s5.trans s7) ha, ?_, seq_upd (s7.seq ql5) nl⟩
                rw [eP, if_pos q0]
                refine (hW5.same s7).set (s7 _ _ hx5) (by rw [R5.1]; exact htm) na (sqL ?_)
                rw [eL]
                exact hp'
          · rintro σ H5 ⟨y4, y6, y7, rfl, s5, hW5, ql5⟩
            refine ⟨_, rfl, _, _, rfl, rfl, ?_⟩
            exact ⟨_, s + 1, _, _, _, _, _, rfl, s5, hW5, redTo_rect R3 hs' s (Nat.le_refl _), hs', hF⟩
  · rintro σ H1 ⟨M1, s, y3, y4, y5, y6, y7, rfl, s1, hW1, R1, hs, hF⟩
    rw [Nat.sub_self] at hF
    exact fin _ _ _ s1 hW1 R1 hF
end
end K51W

set_option maxHeartbeats 200000
/-! hermite_of, basis_rows. -/
namespace K51W
open PySem PySem.Spec PyProof.Rows L2 K51
section
variable {P : Program} {w : World} {K : PySem.W.Frag} {mg : Str → Option Value} {base : Heap}
theorem cut_drop {xs : List V} {k : Nat} (h : k ≤ xs.length) : cutV xs (some (k : Int)) none = xs.drop k := by
  unfold cutV
  rw [HT.sIx_nat, HT.sIx_none, Nat.min_eq_left h, List.take_of_length_le (by rw [List.length_drop]; omega)]
theorem cut_take {xs : List V} {k : Nat} (h : k ≤ xs.length) : cutV xs none (some (k : Int)) = xs.take k := by
  unfold cutV
  rw [HT.sIx_nat, HT.sIx_none, Nat.min_eq_left h]
  rfl
theorem ne_new {H : Hp} {Z D : Addr} (h : H D ≠ none) (z : H Z = none) : Z ≠ D := fun e => h (e ▸ z)
/-- what came since G, up to H, is what came since an earlier one, up to a later one -/
theorem nw_far {H0 G H H' : Hp} (s1 : Same H0 G) (s2 : Same H H') : Same (nw eH G H) (nw eH H0 H') := fun a o e => by
  cases h : G a with
  | none =>
    rw [nw_new h] at e
    rw [nw_new (s1.free h)]
    exact s2 a o e
  | some u =>
    rw [nw_old h] at e
    cases e
/-- the rows of a list, each cut -/
theorem cut_rows {H : Hp} {D : Addr} {M : Mat} (g : List Int → List Int) {H' : Hp} {ys : List V} (hD : H D = none) (e1 : H' D = some (.lst ys)) (e2 : ys.length = M.length)
    (e3 : ∀ (i : Nat) (y : V), ys[i]? = some y → ∃ r, M[i]? = some r ∧ Dp K (nw eH H (wo H' D)) y (dI (g r))) : Dp K (nw eH H H') (.ref D) (dM (M.map g)) :=
  mk_list hD e1 (by simp [e2]) fun i y d hy hd => by
    obtain ⟨r, hr, dr⟩ := e3 i y hy
    rw [List.getElem?_map, List.getElem?_map, hr] at hd
    cases hd
    exact dr
def spHe (K : PySem.W.Frag) : Sp := fun vs H Q _ => ∃ (v : V) (A : Mat) (m w e : Nat) (Post : Nat → Mat → Prop), vs = [v] ∧ Dp K H v (dM A) ∧ Rect m w A ∧ 0 < m ∧ m ≤ 500 ∧ w ≤ 500 ∧ e ≤ 66900000 ∧ FOk e w 0 0 (augm m A) Post ∧
  ∀ s M H' p l d, Same H H' → Post s M → Rect m (w + m) M → H p = none → H' p = some (.tup [l, d]) → Dp K (nw eH H H') l (dM (lefOf w M)) → Dp K (nw eH H H') d (dM (topOf w M)) → Q (.ref p) H'
theorem ok_hermite_of {f : Addr} {fd : FuncData} (F : Df K "hermite_of" "hermite_of" s_hermite_of f fd) (T : Bn mg) (h_identity : Fn P w K mg base 41 "identity" ["many"] spId) (h_formed : Fn P w K mg base 43 "formed" ["work", "wide"] (spFo K)) :
    FnOk P w K mg base CX0 44 f fd ["rows"] (spHe K) := by
  refine body_ok F sc_hermite_of (fun vs H Q E h => by obtain ⟨v, A, m, w, e, Post, rfl, _⟩ := h; rfl) (fun cdv A outer s H vs Q E hr h => ?_)
  obtain ⟨v, A, m, w, e, Post, rfl, hv, R, h0, hm, hw, he, hF, fin⟩ := h
  obtain ⟨a, xs, rfl, hS, hl, hrow⟩ := get_rows hv
  refine ⟨_, (pss_cons (ps_set (i := 1) sc_hermite_of.nd rfl (Or.inr rfl) (pe_callB (lenS (K := K) rfl) (by rfl) T.len (by decide +kernel) (pa_cons (pe_ix (ixL (K := K) rfl) (pv 0) pe_int (fun _ _ => rfl)) pa_nil)))
      (pss_cons (ps_setLc (i := 2) (own := [("row", 3), ("one", 4)]) (by rfl) sc_hermite_of.nd rfl rfl (sw_true rfl rfl rfl (by decide +kernel)) (piZ (K := K) rfl (by rfl) T.zip (pa_cons (pv 0) (pa_cons (pe_fn h_identity (hr.mono (by decide)) (by rfl) (pa_cons (pe_callB (lenS (K := K) rfl) (by rfl) T.len (by decide +kernel) (pa_cons (pv 0) pa_nil)) pa_nil)) pa_nil)) rfl rfl) (blkOk_by (N := ["rows", "wide", "work", "row", "one"]) (sc := defScope s_hermite_of) (own := [("row", 3), ("one", 4)]) (by decide +kernel)) (fun _ _ _ _ _ => (tupG (K := K) (n := 2) rfl rfl (pgs_cons (pg_name (i := 3) sc_hermite_of.nd rfl (Or.inl rfl) (Or.inr rfl)) (pgs_cons (pg_name (i := 4) sc_hermite_of.nd rfl (Or.inl rfl) (Or.inr rfl)) pgs_nil)) rfl rfl)) (fun _ _ _ _ _ => pts_nil) (fun _ _ _ _ _ => (pe_op op_cat (pe_callTy (listO (K := K) rfl) (by rfl) T.list (by decide +kernel) (pa_cons (pv 3) pa_nil)) (pv 4))))
      (pss_cons (ps_expr (pe_fn h_formed (hr.mono (by decide)) (by rfl) (pa_cons (pv 2) (pa_cons (pv 1) pa_nil))))
      (pss_one (ps_ret (pe_tup (pa_cons (pe_lc (own := [("row", 3)]) (by rfl) sc_hermite_of.nd (piL (K := K) rfl (pv 2)) (blkOk_by (N := ["rows", "wide", "work", "row", "one"]) (sc := defScope s_hermite_of) (own := [("row", 3)]) (by decide +kernel)) (fun _ _ _ _ _ => (pg_name (i := 3) sc_hermite_of.nd rfl (Or.inl rfl) (Or.inr rfl))) (fun _ _ _ _ _ => pts_nil) (fun _ _ _ _ _ => (pe_slice (slL (K := K) rfl) (pv 3) (po_some (pv 1)) po_none))) (pa_cons (pe_lc (own := [("row", 3)]) (by rfl) sc_hermite_of.nd (piL (K := K) rfl (pv 2)) (blkOk_by (N := ["rows", "wide", "work", "row", "one"]) (sc := defScope s_hermite_of) (own := [("row", 3)]) (by decide +kernel)) (fun _ _ _ _ _ => (pg_name (i := 3) sc_hermite_of.nd rfl (Or.inl rfl) (Or.inr rfl))) (fun _ _ _ _ _ => pts_nil) (fun _ _ _ _ _ => (pe_slice (slL (K := K) rfl) (pv 3) po_none (po_some (pv 1))))) pa_nil)))))))), ?_⟩
  have lA : A.length = m := R.1
  obtain ⟨p0, g0, q0⟩ := hrow 0 A[0] (List.getElem?_eq_getElem (by omega))
  have l0 : A[0].length = w := R.2 _ (List.getElem_mem (by omega))
  refine ⟨_, rfl, a, xs, 0, _, rfl, rfl, hS, atI_nat (j := 0) g0, p0, _, rfl, .inl q0, ?_⟩
  rw [List.length_map, l0]
  refine ⟨_, rfl, _, rfl, a, xs, rfl, .inl hS, m, by rw [hl, lA]; rfl, by omega, fun b H1 s1 hN => ?_⟩
  obtain ⟨nb, bs, hb, lb, brow⟩ := hN
  have lI : (idm m).length = m := (idm_rect m).1
  refine ⟨a, b, xs, bs, rfl, s1.seq hS, sqL hb, fun D hD => ?_⟩
  refine lc_map (walk_zip (n := m) (by rw [hl, lb, lA, lI]; omega)) hD (fun i v G => ∃ p, v = .ref p ∧ H p = none ∧ G p = some (.lst (iv ((augm m A).getD i [])))) (fun i v G G' s ⟨p, h1, h2, h3⟩ => ⟨p, h1, h2, s _ _ h3⟩) (by omega) (fun _ s2 => ⟨s2.seq (s1.seq hS), s2.seq (sqL hb)⟩) ?_ ?_
  · rintro i x H2 H3 hi s2 hD2 ⟨T', x1, y1, rfl, nT, rfl, e1, e2⟩ N go
    obtain ⟨p, gp, qp⟩ := hrow i _ (getD_at (by rw [lA]; exact hi))
    cases e1.symm.trans gp
    obtain ⟨q, gq, _, nq, qq⟩ := brow i _ (getD_at (by rw [lI]; exact hi))
    cases e2.symm.trans gq
    have sT : Same H2 (upd H2 T' (.tup [.ref p, .ref q])) := same_new nT
    have sA := s1.trans (s2.trans sT)
    refine ⟨T', [.ref p, .ref q], rfl, sqT upd_same, rfl, _, _, rfl, _, _, rfl, rfl, rfl, ?_⟩
    refine ⟨_, rfl, p, _, rfl, .inl (sA.seq qp), fun L hL => ?_⟩
    have sL := same_new (o := .lst (iv (A.getD i []))) hL
    refine ⟨_, rfl, L, q, _, _, rfl, rfl, upd_same, sL _ _ ((s2.trans sT) _ _ qq), ?_, fun Z hZ => ?_⟩
    · rw [List.length_map, List.length_map, R.row hi, (idm_rect m).row hi]
      exact Nat.le_trans (by omega : w + m ≤ 1000) (by decide)
    · refine go _ _ (sT.trans (sL.trans (same_new hZ))) ⟨Z, rfl, (sA.trans sL).free hZ, ?_⟩
      have nZ : Z ≠ D := fun z => hD2 ((s2.trans sT).trans sL |>.free (z ▸ hZ) |> fun _ => (sT.trans sL).free (z ▸ hZ))
      rw [wo_at nZ, upd_same, augm_row R hi]
      exact congrArg (fun z => some (HO.lst z)) List.map_append.symm
  · intro H2 ys s1' e1 e2 e3
    have hD0 : H D = none := s1.free hD
    have lG : (augm m A).length = m := (augm_rect R).1
    have hW : WkAt K H2 D (augm m A) := ⟨ys, e1, by rw [e2, lG], fun i r hr => by
      have hi : i < m := by have := (List.getElem?_eq_some_iff.mp hr).1; omega
      obtain ⟨p, h1, h2, h3⟩ := e3 i ys[i] (List.getElem?_eq_getElem (by omega))
      have np : p ≠ D := fun z => by rw [z, wo_none] at h3; cases h3
      rw [wo_at np] at h3
      rw [getD_at (by rw [lG]; exact hi)] at hr
      cases hr
      exact ⟨p, by rw [List.getElem?_eq_getElem (by omega), h1], np, sqL h3⟩⟩
    have s2 := s1.trans s1'
    refine ⟨_, rfl, _, rfl, D, w, m, w + m, e, H, augm m A, Post, rfl, s2, hD0, hW, augm_rect R, by omega, by omega, by omega, he, hF, fun s M H3 s3 hW3 R3 hP => ?_⟩
    obtain ⟨zs, hz, lz, zrow⟩ := id hW3
    have lM : M.length = m := R3.1
    have hz3 : SqL K H3 D zs := sqL hz
    refine ⟨_, rfl, D, rfl, ⟨zs, hz3⟩, fun D1 hD1 => ?_⟩
    refine lc_map (n := zs.length) walk_list hD1 (fun i v G => ∃ r, M[i]? = some r ∧ Dp K (nw eH H3 G) v (dI (r.drop w))) (fun i v G G' s ⟨r, h1, h2⟩ => ⟨r, h1, Dp.up (nw_mono s) _ h2⟩) (by omega) (fun _ s4 => s4.seq hz3) ?_ ?_
    · rintro i x H4 H5 hi s4 hD4 ⟨rfl, ex⟩ N go
      have hr := getD_at (M := M) (i := i) (by omega)
      obtain ⟨p, gp, _, qp⟩ := zrow i _ hr
      cases ex.symm.trans gp
      refine ⟨rfl, _, rfl, _, rfl, w, rfl, p, _, rfl, s4.seq qp, fun Z hZ => go _ _ (same_new hZ) ⟨_, hr, mk_ints (s4.free hZ) ?_⟩⟩
      rw [wo_at (ne_new hD4 hZ), upd_same, cut_drop (by rw [List.length_map, R3.row (by omega)]; omega)]
      exact congrArg (fun z => some (HO.lst z)) List.map_drop.symm
    · intro H4 ys1 s4 f1 f2 f3
      have d1 : Dp K (nw eH H3 H4) (.ref D1) (dM (lefOf w M)) := cut_rows (fun r => r.drop w) hD1 f1 (by omega) f3
      refine ⟨_, rfl, D, rfl, ⟨zs, s4.seq hz3⟩, fun D2 hD2 => ?_⟩
      refine lc_map (n := zs.length) walk_list hD2 (fun i v G => ∃ r, M[i]? = some r ∧ Dp K (nw eH H4 G) v (dI (r.take w))) (fun i v G G' s ⟨r, h1, h2⟩ => ⟨r, h1, Dp.up (nw_mono s) _ h2⟩) (by omega) (fun _ s5 => s5.seq (s4.seq hz3)) ?_ ?_
      · rintro i x H5 H6 hi s5 hD5 ⟨rfl, ex⟩ N go
        have hr := getD_at (M := M) (i := i) (by omega)
        obtain ⟨p, gp, _, qp⟩ := zrow i _ hr
        cases ex.symm.trans gp
        refine ⟨rfl, _, rfl, _, rfl, w, rfl, p, _, rfl, s5.seq (s4.seq qp), fun Z hZ => go _ _ (same_new hZ) ⟨_, hr, mk_ints (s5.free hZ) ?_⟩⟩
        rw [wo_at (ne_new hD5 hZ), upd_same, cut_take (by rw [List.length_map, R3.row (by omega)]; omega)]
        exact congrArg (fun z => some (HO.lst z)) List.map_take.symm
      · intro H5 ys2 s5 g1 g2 g3
        have d2 : Dp K (nw eH H4 H5) (.ref D2) (dM (topOf w M)) := cut_rows (fun r => r.take w) hD2 g1 (by omega) g3
        refine ⟨by show 2 ≤ sizeLine; decide, fun p hp => ?_⟩
        have sp := same_new (o := .tup [.ref D1, .ref D2]) hp
        have sF := (s3.trans s4).trans s5
        exact fin s M _ p _ _ (sF.trans sp) hP R3 (sF.free hp) upd_same (Dp.up (nw_far s3 (s5.trans sp)) _ d1) (Dp.up (nw_far (s3.trans s4) sp) _ d2)
end
end K51W

set_option maxHeartbeats 200000
/-! basis_rows. -/
namespace K51W
open PySem PySem.Spec PyProof.Rows L2 K51
section
variable {J : It} {n : Nat} {Gd : Hp → Prop} {Y : Nat → Hp → V → Hp → Prop} {g : TG} {tt : TT} {te : TE} {vs : List Nat} {σ : Sto} {H1 : Hp} {D : Addr} {Qd : Hp → Prop}
/-- some items, those of the turns that keep tells; R i of the one kept at turn i -/
theorem lc_keep (w : Walk J n Gd Y) (hD : H1 D = none) (keep : Nat → Bool) (R : Nat → V → Hp → Prop) (mono : ∀ i v H H', Same H H' → R i v H → R i v H') (hn : n ≤ 100000) (hG : ∀ H, Same H1 H → Gd H)
    (hs : ∀ i x H H', i < n → Same H1 H → H D ≠ none → Y i H x H' → ∀ (N : V → Hp → Prop) (F : Hp → Prop), (keep i = true → ∀ y H4, Same H H4 → R i y (wo H4 D) → N y H4) → (keep i = false → ∀ H4, Same H H4 → F H4) →
      g x (wipe σ vs) H' fun σ2 H2 => wipe σ2 vs = wipe σ vs ∧ tt σ2 H2 fun b H3 => if b = true then te σ2 H3 N else F H3)
    (hd : ∀ (H : Hp) (ys : List V), Same H1 H → H D = some (.lst ys) → ys.length = ((List.range n).filter keep).length → (∀ (j : Nat) (y : V), ys[j]? = some y → ∃ i, ((List.range n).filter keep)[j]? = some i ∧ R i y (wo H D)) → Qd H) :
    ∃ W : Nat → Nat → Hp → Prop, (∃ m, W 0 m (upd H1 D (.lst []))) ∧ ∀ i m H, W i m H →
      (J.stop i H ∧ Qd H) ∨ (J.go i H ∧ ∃ Nx : Hp → Prop, (∀ H', Nx H' → ∃ m', m' < m ∧ W (i + 1) m' H') ∧ ∀ x H', J.yld i H x H' → g x (wipe σ vs) H' fun σ2 H2 => wipe σ2 vs = wipe σ vs ∧ tt σ2 H2 fun b H3 =>
        if b = true then te σ2 H3 fun y H4 => ∃ acc, H4 D = some (.lst acc) ∧ acc.length < sizeLine ∧ Nx (upd H4 D (.lst (acc ++ [y]))) else Nx H3) := by
  refine lc_it w (fun i H => ∃ ys, Same H1 H ∧ H D = some (.lst ys) ∧ ys.length = ((List.range i).filter keep).length ∧ ∀ (j : Nat) (y : V), ys[j]? = some y → ∃ i', ((List.range i).filter keep)[j]? = some i' ∧ R i' y (wo H D)) ⟨[], same_new hD, upd_same, rfl, fun j y e => by simp at e⟩
    (fun i H _ ⟨ys, s1, _⟩ => hG H s1) (fun i x H H' hi ⟨ys, s1, h1, h2, h3⟩ hy => ?_) (fun H ⟨ys, s1, h1, h2, h3⟩ => hd H ys s1 h1 h2 h3)
  have lf : ((List.range i).filter keep).length ≤ i := Nat.le_trans (List.length_filter_le _ _) (by rw [List.length_range]; exact Nat.le_refl _)
  refine hs i x H H' hi s1 (by rw [h1]; exact fun z => nomatch z) hy _ _ (fun k y H4 s4 r => ?_) fun k H4 s4 => ?_
  · refine ⟨ys, s4 _ _ h1, Nat.lt_of_lt_of_le (by omega : ys.length < 100000) (by decide), ys ++ [y], same_mut (s1.trans s4) hD, upd_same, ?_, fun j z e => ?_⟩
    · rw [List.range_succ, List.filter_append, List.length_append, List.length_append, h2]
      simp [k]
    · rw [wo_upd, List.range_succ, List.filter_append]
      rcases Nat.lt_trichotomy j ys.length with q | q | q
      · rw [List.getElem?_append_left q] at e
        rw [List.getElem?_append_left (by omega)]
        obtain ⟨i', e1, e2⟩ := h3 j z e
        exact ⟨i', e1, mono _ _ _ _ (wo_same s4) e2⟩
      · subst q
        simp at e
        subst e
        refine ⟨i, ?_, r⟩
        rw [h2, List.getElem?_append_right (Nat.le_refl _)]
        simp [k]
      · rw [List.getElem?_append_right (by omega), List.getElem?_eq_none (by simp; omega)] at e
        cases e
  · refine ⟨ys, s1.trans s4, s4 _ _ h1, ?_, fun j z e => ?_⟩
    · rw [List.range_succ, List.filter_append, List.length_append, h2]
      simp [k]
    · rw [List.range_succ, List.filter_append]
      obtain ⟨i', e1, e2⟩ := h3 j z e
      refine ⟨i', ?_, mono _ _ _ _ (wo_same s4) e2⟩
      rw [List.getElem?_append_left (List.getElem?_eq_some_iff.mp e1).1]
      exact e1
end
section
variable {P : Program} {w : World} {K : PySem.W.Frag} {mg : Str → Option Value} {base : Heap}
abbrev dTI (r : List Int) : PyData := .tuple (r.map .int)
abbrev dT (M : Mat) : PyData := .tuple (M.map dTI)
theorem filter_rows {M : Mat} (q : List Int → Bool) : ((List.range M.length).filter fun i => q (M.getD i [])).map (fun i => M.getD i []) = M.filter q := by
  have : M = (List.range M.length).map fun i => M.getD i [] := by
    refine List.ext_getElem (by simp) fun i h1 h2 => ?_
    simp [List.getD_eq_getElem?_getD, h1]
  conv => rhs; rw [this, List.filter_map]
  rfl
def spBa (K : PySem.W.Frag) : Sp := fun vs H Q _ => ∃ (v : V) (A : Mat) (m w e : Nat) (Post : Nat → Mat → Prop), vs = [v] ∧ Dp K H v (dM A) ∧ Rect m w A ∧ 0 < m ∧ m ≤ 500 ∧ w ≤ 500 ∧ e ≤ 66900000 ∧ FOk e w 0 0 A Post ∧
  ∀ s M H' v, Same H H' → Post s M → Rect m w M → Dp K (nw eH H H') v (dT (M.filter nz)) → Q v H'
theorem ok_basis_rows {f : Addr} {fd : FuncData} (F : Df K "basis_rows" "basis_rows" s_basis_rows f fd) (T : Bn mg) (h_formed : Fn P w K mg base 43 "formed" ["work", "wide"] (spFo K)) :
    FnOk P w K mg base CX0 44 f fd ["rows"] (spBa K) := by
  refine body_ok F sc_basis_rows (fun vs H Q E h => by obtain ⟨v, A, m, w, e, Post, rfl, _⟩ := h; rfl) (fun cdv A outer s H vs Q E hr h => ?_)
  obtain ⟨v, A, m, w, e, Post, rfl, hv, R, h0, hm, hw, he, hF, fin⟩ := h
  obtain ⟨a, xs, rfl, hS, hl, hrow⟩ := get_rows hv
  refine ⟨_, (pss_cons (ps_setLc (i := 1) (own := [("row", 2)]) (by rfl) sc_basis_rows.nd rfl rfl (sw_true rfl rfl rfl (by decide +kernel)) (piL (K := K) rfl (pv 0)) (blkOk_by (N := ["rows", "work", "row", "item"]) (sc := defScope s_basis_rows) (own := [("row", 2)]) (by decide +kernel)) (fun _ _ _ _ _ => (pg_name (i := 2) sc_basis_rows.nd rfl (Or.inl rfl) (Or.inr rfl))) (fun _ _ _ _ _ => pts_nil) (fun _ _ _ _ _ => (pe_callTy (listO (K := K) rfl) (by rfl) T.list (by decide +kernel) (pa_cons (pv 2) pa_nil))))
      (pss_cons (ps_expr (pe_fn h_formed (hr.mono (by decide)) (by rfl) (pa_cons (pv 1) (pa_cons (pe_callB (lenS (K := K) rfl) (by rfl) T.len (by decide +kernel) (pa_cons (pe_ix (ixL (K := K) rfl) (pv 0) pe_int (fun _ _ => rfl)) pa_nil)) pa_nil))))
      (pss_one (ps_ret (pe_callTy (tupO (K := K) rfl) (by rfl) T.tuple (by decide +kernel) (pa_cons (pe_lc (own := [("row", 2)]) (by rfl) sc_basis_rows.nd (piL (K := K) rfl (pv 1)) (blkOk_by (N := ["rows", "work", "row", "item"]) (sc := defScope s_basis_rows) (own := [("row", 2)]) (by decide +kernel)) (fun _ _ _ _ _ => (pg_name (i := 2) sc_basis_rows.nd rfl (Or.inl rfl) (Or.inr rfl))) (fun _ _ _ _ _ => (pts_one (pt_val (pe_callB (anyK (K := K) rfl rfl) (by rfl) T.any (by decide +kernel) (pa_cons (pe_lc (own := [("item", 3)]) (by rfl) sc_basis_rows.nd (piL (K := K) rfl (pv 2)) (blkOk_by (own := [("item", 3)]) (by kernel_rfl)) (fun _ _ _ _ _ => (pg_name (i := 3) sc_basis_rows.nd rfl (Or.inl rfl) (Or.inr rfl))) (fun _ _ _ _ _ => pts_nil) (fun _ _ _ _ _ => (pe_cmpR op_ne (pv 3) pe_int (nomark _)))) pa_nil))))) (fun _ _ _ _ _ => (pe_callTy (tupO (K := K) rfl) (by rfl) T.tuple (by decide +kernel) (pa_cons (pv 2) pa_nil)))) pa_nil)))))), ?_⟩
  have lA : A.length = m := R.1
  refine ⟨_, rfl, a, rfl, ⟨xs, hS⟩, fun D hD => ?_⟩
  refine lc_map (n := xs.length) walk_list hD (fun i v G => ∃ p, v = .ref p ∧ H p = none ∧ G p = some (.lst (iv (A.getD i [])))) (fun i v G G' s ⟨p, h1, h2, h3⟩ => ⟨p, h1, h2, s _ _ h3⟩) (by omega) (fun _ s2 => s2.seq hS) ?_ ?_
  · rintro i x H2 H3 hi s2 hD2 ⟨rfl, ex⟩ N go
    obtain ⟨p, gp, qp⟩ := hrow i _ (getD_at (by omega))
    cases ex.symm.trans gp
    refine ⟨rfl, _, rfl, p, _, rfl, .inl (s2.seq qp), fun Z hZ => go _ _ (same_new hZ) ⟨Z, rfl, s2.free hZ, ?_⟩⟩
    rw [wo_at (ne_new hD2 hZ), upd_same]
  · intro H2 ys s2 e1 e2 e3
    have hW : WkAt K H2 D A := ⟨ys, e1, by rw [e2, hl], fun i r hr => by
      have hi : i < m := by have := (List.getElem?_eq_some_iff.mp hr).1; omega
      obtain ⟨p, h1, h2, h3⟩ := e3 i ys[i] (List.getElem?_eq_getElem (by omega))
      have np : p ≠ D := fun z => by rw [z, wo_none] at h3; cases h3
      rw [wo_at np] at h3
      rw [getD_at (by omega)] at hr
      cases hr
      exact ⟨p, by rw [List.getElem?_eq_getElem (by omega), h1], np, sqL h3⟩⟩
    obtain ⟨p0, g0, q0⟩ := hrow 0 A[0] (List.getElem?_eq_getElem (by omega))
    have l0 : A[0].length = w := R.2 _ (List.getElem_mem (by omega))
    refine ⟨_, rfl, _, rfl, a, xs, 0, _, rfl, rfl, s2.seq hS, atI_nat (j := 0) g0, p0, _, rfl, .inl (s2.seq q0), ?_⟩
    refine ⟨D, w, m, w, e, H, A, Post, by rw [List.length_map, l0]; rfl, s2, hD, hW, R, by omega, by omega, by omega, he, hF, fun s M H3 s3 hW3 R3 hP => ?_⟩
    obtain ⟨zs, hz, lz, zrow⟩ := id hW3
    have lM : M.length = m := R3.1
    have hz3 : SqL K H3 D zs := sqL hz
    refine ⟨_, rfl, D, rfl, ⟨zs, hz3⟩, fun D1 hD1 => ?_⟩
    refine lc_keep (n := zs.length) walk_list hD1 (fun i => nz (M.getD i [])) (fun i v G => Dp K (nw eH H3 G) v (dTI (M.getD i []))) (fun i v G G' s h => Dp.up (nw_mono s) _ h) (by omega) (fun _ s4 => s4.seq hz3) ?_ ?_
    · rintro i x H4 H5 hi s4 hD4 ⟨rfl, ex⟩ N F gN gF
      obtain ⟨p, gp, _, qp⟩ := zrow i _ (getD_at (M := M) (i := i) (by omega))
      cases ex.symm.trans gp
      refine ⟨rfl, ?_⟩
      refine ⟨_, rfl, p, rfl, ⟨_, s4.seq qp⟩, fun D2 hD2 => ?_⟩
      refine lc_map walk_list hD2 (fun j v _ => ∃ u, (M.getD i [])[j]? = some u ∧ v = .bl (u != 0)) (fun _ _ _ _ _ z => z) (by rw [List.length_map, R3.row (by omega)]; omega) (fun _ s5 => s5.seq (s4.seq qp)) ?_ ?_
      · rintro j x H6 H7 hj s6 hD6 ⟨rfl, ey⟩ N2 go2
        obtain ⟨u, hu, rfl⟩ := iv_get ey
        refine ⟨rfl, _, rfl, rfl, go2 _ _ (Same.refl _) ⟨u, hu, ?_⟩⟩
        rw [dec_int]
        rfl
      · intro H6 bs s6 f1 f2 f3
        have eb : bs = ((M.getD i []).map fun u => u != 0).map V.bl := ext_of (by rw [f2]; simp) fun j y z hy hz => by
          obtain ⟨u, hu, rfl⟩ := f3 j y hy
          rw [List.getElem?_map, List.getElem?_map, hu] at hz
          exact Option.some.inj hz
        refine ⟨D2, _, rfl, sqL (by rw [f1, eb]), ?_⟩
        have ea : (((M.getD i []).map fun u => u != 0).any id) = nz (M.getD i []) := by
          unfold nz
          rw [List.any_map]
          rfl
        rw [ea]
        refine ⟨_, rfl, ?_⟩
        cases q : nz (M.getD i []) with
        | false => exact gF q _ s6
        | true =>
          refine ⟨_, rfl, p, _, rfl, .inl ⟨s6.seq (s4.seq qp), fun Z hZ => gN q _ _ (s6.trans (same_new hZ)) ?_⟩⟩
          have hD6 : H6 D1 ≠ none := fun z => hD4 (s6.free z)
          exact .tup (sqT (by rw [nw_new ((s4.trans s6).free hZ), wo_at (ne_new hD6 hZ), upd_same])) (DpAll.ints _)
    · intro H4 ys1 s4 f1 f2 f3
      refine ⟨D1, ys1, rfl, .inl ⟨sqL f1, fun Z hZ => ?_⟩⟩
      have sF := s3.trans s4
      refine fin s M _ _ (sF.trans (same_new hZ)) hP R3 (.tup (sqT (by rw [nw_new (sF.free hZ)]; exact upd_same)) (DpAll.of ?_ fun j v d hv hd => ?_))
      · rw [f2, List.length_map, ← filter_rows nz, List.length_map, lz]
      · obtain ⟨i, h1, h2⟩ := f3 j v hv
        rw [List.getElem?_map, ← filter_rows nz, List.getElem?_map, ← lz, h1] at hd
        cases hd
        refine Dp.up (fun b o e => ?_) _ h2
        exact nw_far s3 (Same.refl _) b o (nw_mono (wo_le.trans (same_new hZ)) b o e)
end
end K51W

set_option maxHeartbeats 200000
/-! A Work on the heap. -/
namespace K51W
open PySem PySem.Spec PyProof.Rows L2 K51
theorem upd_twice {H : Hp} {a : Addr} {o1 o2 : HO} : upd (upd H a o1) a o2 = upd H a o2 := funext fun b => by
  by_cases h : b = a
  · subst h; rw [upd_same, upd_same]
  · rw [upd_ne h, upd_ne h, upd_ne h]
section
variable {K : PySem.W.Frag}
/-- the class Work -/
structure WCl (K : PySem.W.Frag) (C : Addr) : Prop where
  cls : Cls K C
  many : NoAttr K C "many"
  wide : NoAttr K C "wide"
  grid : NoAttr K C "grid"
  lefts : NoAttr K C "lefts"
  rights : NoAttr K C "rights"
abbrev flds (m w : Nat) (g l r : Addr) : List (Str × V) := [("many", .int (m : Int)), ("wide", .int (w : Int)), ("grid", .ref g), ("lefts", .ref l), ("rights", .ref r)]
abbrev refs (n : Nat) (p : Nat → Addr) : List V := (List.range n).map fun i => .ref (p i)
theorem refs_len (n : Nat) (p : Nat → Addr) : (refs n p).length = n := by simp
theorem refs_at {n : Nat} {p : Nat → Addr} {i : Nat} (h : i < n) : (refs n p)[i]? = some (.ref (p i)) := by simp [h]
theorem refs_set {n : Nat} {p : Nat → Addr} {k : Nat} {z : Addr} : (refs n p).set k (.ref z) = refs n fun i => if i = k then z else p i := by
  refine List.ext_getElem (by simp) fun i h1 h2 => ?_
  simp only [List.getElem_set, List.getElem_map, List.getElem_range]
  by_cases e : k = i
  · rw [if_pos e, if_pos e.symm]
  · rw [if_neg e, if_neg (Ne.symm e)]
/-- own places of a Work: they may change -/
structure Ow (m : Nat) (x g l r : Addr) (p : Nat → Addr) (a : Addr) : Prop where
  x : a ≠ x
  g : a ≠ g
  l : a ≠ l
  r : a ≠ r
  p : ∀ i, i < m → a ≠ p i
theorem Ow.ren {m : Nat} {x g l r a : Addr} {p p' : Nat → Addr} (h : Ow m x g l r p a) (h2 : ∀ i, i < m → a ≠ p' i) : Ow m x g l r p' a := ⟨h.x, h.g, h.l, h.r, h2⟩
structure WIn (K : PySem.W.Frag) (C : Addr) (H0 H : Hp) (x : Addr) (m w : Nat) (W : Wk) (dx g l r : Addr) (p q t : Nat → Addr) : Prop where
  s0 : Same H0 H
  hx : H x = some (.ins C dx (flds m w g l r))
  hg : H g = some (.lst (refs m p))
  hl : H l = some (.lst (refs m q))
  hr : H r = some (.lst (refs w t))
  row : ∀ i, i < m → H (p i) = some (.lst (iv (W.g.getD i [])))
  rowl : ∀ i, i < m → H (q i) = some (.lst (iv (W.l.getD i [])))
  rowr : ∀ i, i < w → H (t i) = some (.lst (iv (W.r.getD i [])))
  inj : ∀ i j, i < m → j < m → p i = p j → i = j
  gl : g ≠ l
  gr : g ≠ r
  lr : l ≠ r
  pg : ∀ i, i < m → p i ≠ g ∧ p i ≠ l ∧ p i ≠ r ∧ p i ≠ x
  qo : ∀ i, i < m → Ow m x g l r p (q i)
  to_ : ∀ i, i < w → Ow m x g l r p (t i)
  fx : H0 x = none
  fg : H0 g = none
  fl : H0 l = none
  fr : H0 r = none
  fp : ∀ i, i < m → H0 (p i) = none
  fq : ∀ i, i < m → H0 (q i) = none
  ft : ∀ i, i < w → H0 (t i) = none
  wr : WR m w W
variable {C : Addr} {H0 H : Hp} {x : Addr} {m w : Nat} {W : Wk} {dx g l r : Addr} {p q t : Nat → Addr}
theorem WIn.xg (h : WIn K C H0 H x m w W dx g l r p q t) : x ≠ g ∧ x ≠ l ∧ x ≠ r :=
  ⟨(fun e => nomatch (h.hx.symm.trans (e ▸ h.hg) : some (HO.ins C dx (flds m w g l r)) = some (.lst (refs m p)))), (fun e => nomatch (h.hx.symm.trans (e ▸ h.hl) : some (HO.ins C dx (flds m w g l r)) = some (.lst (refs m q)))), (fun e => nomatch (h.hx.symm.trans (e ▸ h.hr) : some (HO.ins C dx (flds m w g l r)) = some (.lst (refs w t))))⟩
theorem WIn.same {H' : Hp} (h : WIn K C H0 H x m w W dx g l r p q t) (s : Same H H') : WIn K C H0 H' x m w W dx g l r p q t :=
  { h with s0 := h.s0.trans s, hx := s _ _ h.hx, hg := s _ _ h.hg, hl := s _ _ h.hl, hr := s _ _ h.hr, row := fun i hi => s _ _ (h.row i hi), rowl := fun i hi => s _ _ (h.rowl i hi), rowr := fun i hi => s _ _ (h.rowr i hi) }
/-- a new one among all that stands -/
theorem WIn.new {z : Addr} (h : WIn K C H0 H x m w W dx g l r p q t) (hz : H z = none) : Ow m x g l r p z :=
  ⟨(ne_of_none h.hx hz).symm, (ne_of_none h.hg hz).symm, (ne_of_none h.hl hz).symm, (ne_of_none h.hr hz).symm, fun i hi => (ne_of_none (h.row i hi) hz).symm⟩
/-- a row of the grid put in another's place -/
theorem WIn.setG {z : Addr} {k : Nat} {R : List Int} (h : WIn K C H0 H x m w W dx g l r p q t) (hk : k < m) (oz : Ow m x g l r p z) (nq : ∀ i, i < m → q i ≠ z) (nt : ∀ i, i < w → t i ≠ z) (hz : H z = some (.lst (iv R))) (fz : H0 z = none) (hR : R.length = w) :
    WIn K C H0 (upd H g (.lst ((refs m p).set k (.ref z)))) x m w ⟨W.g.set k R, W.l, W.r⟩ dx g l r (fun i => if i = k then z else p i) q t where
  s0 := same_mut h.s0 h.fg
  hx := by rw [upd_ne h.xg.1]; exact h.hx
  hg := by rw [upd_same, refs_set]
  hl := by rw [upd_ne h.gl.symm]; exact h.hl
  hr := by rw [upd_ne h.gr.symm]; exact h.hr
  row := fun i hi => by
    show upd H g _ (if i = k then z else p i) = some (.lst (iv ((W.g.set k R).getD i [])))
    rw [getD_set _ _ _ _ (by rw [h.wr.g.1]; exact hk)]
    by_cases e : i = k
    · rw [if_pos e, if_pos e, upd_ne oz.g]; exact hz
    · rw [if_neg e, if_neg e, upd_ne (h.pg i hi).1]; exact h.row i hi
  rowl := fun i hi => (by rw [upd_ne (h.qo i hi).g]; exact h.rowl i hi)
  rowr := fun i hi => (by rw [upd_ne (h.to_ i hi).g]; exact h.rowr i hi)
  inj := fun i j hi hj e => by
    by_cases e1 : i = k
    · by_cases e2 : j = k
      · omega
      · simp only [if_pos e1, if_neg e2] at e
        exact absurd e (oz.p j hj)
    · by_cases e2 : j = k
      · simp only [if_neg e1, if_pos e2] at e
        exact absurd e.symm (oz.p i hi)
      · simp only [if_neg e1, if_neg e2] at e
        exact h.inj i j hi hj e
  gl := h.gl
  gr := h.gr
  lr := h.lr
  pg := fun i hi => by
    by_cases e : i = k
    · simp only [if_pos e]; exact ⟨oz.g, oz.l, oz.r, oz.x⟩
    · simp only [if_neg e]; exact h.pg i hi
  qo := fun i hi => (h.qo i hi).ren fun j hj => by
    by_cases e : j = k
    · simp only [if_pos e]; exact nq i hi
    · simp only [if_neg e]; exact (h.qo i hi).p j hj
  to_ := fun i hi => (h.to_ i hi).ren fun j hj => by
    by_cases e : j = k
    · simp only [if_pos e]; exact nt i hi
    · simp only [if_neg e]; exact (h.to_ i hi).p j hj
  fx := h.fx
  fg := h.fg
  fl := h.fl
  fr := h.fr
  fp := fun i hi => by
    by_cases e : i = k
    · simp only [if_pos e]; exact fz
    · simp only [if_neg e]; exact h.fp i hi
  fq := h.fq
  ft := h.ft
  wr := ⟨h.wr.g.set hR, h.wr.l, h.wr.r⟩
/-- a row of lefts put in another's place -/
theorem WIn.setL {z : Addr} {k : Nat} {R : List Int} (h : WIn K C H0 H x m w W dx g l r p q t) (hk : k < m) (oz : Ow m x g l r p z) (hz : H z = some (.lst (iv R))) (fz : H0 z = none) (hR : R.length = m) :
    WIn K C H0 (upd H l (.lst ((refs m q).set k (.ref z)))) x m w ⟨W.g, W.l.set k R, W.r⟩ dx g l r p (fun i => if i = k then z else q i) t where
  s0 := same_mut h.s0 h.fl
  hx := by rw [upd_ne h.xg.2.1]; exact h.hx
  hg := by rw [upd_ne h.gl]; exact h.hg
  hl := by rw [upd_same, refs_set]
  hr := by rw [upd_ne h.lr.symm]; exact h.hr
  row := fun i hi => by rw [upd_ne (h.pg i hi).2.1]; exact h.row i hi
  rowl := fun i hi => by
    show upd H l _ (if i = k then z else q i) = some (.lst (iv ((W.l.set k R).getD i [])))
    rw [getD_set _ _ _ _ (by rw [h.wr.l.1]; exact hk)]
    by_cases e : i = k
    · rw [if_pos e, if_pos e]; rw [upd_ne oz.l]; exact hz
    · rw [if_neg e, if_neg e]; exact (by rw [upd_ne (h.qo i hi).l]; exact h.rowl i hi)
  rowr := fun i hi => (by rw [upd_ne (h.to_ i hi).l]; exact h.rowr i hi)
  inj := h.inj
  gl := h.gl
  gr := h.gr
  lr := h.lr
  pg := h.pg
  qo := fun i hi => by
    by_cases e : i = k
    · simp only [if_pos e]; exact oz
    · simp only [if_neg e]; exact h.qo i hi
  to_ := h.to_
  fx := h.fx
  fg := h.fg
  fl := h.fl
  fr := h.fr
  fp := h.fp
  fq := fun i hi => by
    by_cases e : i = k
    · simp only [if_pos e]; exact fz
    · simp only [if_neg e]; exact h.fq i hi
  ft := h.ft
  wr := ⟨h.wr.g, h.wr.l.set hR, h.wr.r⟩
/-- a row of rights put in another's place -/
theorem WIn.setR {z : Addr} {k : Nat} {R : List Int} (h : WIn K C H0 H x m w W dx g l r p q t) (hk : k < w) (oz : Ow m x g l r p z) (hz : H z = some (.lst (iv R))) (fz : H0 z = none) (hR : R.length = w) :
    WIn K C H0 (upd H r (.lst ((refs w t).set k (.ref z)))) x m w ⟨W.g, W.l, W.r.set k R⟩ dx g l r p q (fun i => if i = k then z else t i) where
  s0 := same_mut h.s0 h.fr
  hx := by rw [upd_ne h.xg.2.2]; exact h.hx
  hg := by rw [upd_ne h.gr]; exact h.hg
  hl := by rw [upd_ne h.lr]; exact h.hl
  hr := by rw [upd_same, refs_set]
  row := fun i hi => by rw [upd_ne (h.pg i hi).2.2.1]; exact h.row i hi
  rowl := fun i hi => (by rw [upd_ne (h.qo i hi).r]; exact h.rowl i hi)
  rowr := fun i hi => by
    show upd H r _ (if i = k then z else t i) = some (.lst (iv ((W.r.set k R).getD i [])))
    rw [getD_set _ _ _ _ (by rw [h.wr.r.1]; exact hk)]
    by_cases e : i = k
    · rw [if_pos e, if_pos e]; rw [upd_ne oz.r]; exact hz
    · rw [if_neg e, if_neg e]; exact (by rw [upd_ne (h.to_ i hi).r]; exact h.rowr i hi)
  inj := h.inj
  gl := h.gl
  gr := h.gr
  lr := h.lr
  pg := h.pg
  qo := h.qo
  to_ := fun i hi => by
    by_cases e : i = k
    · simp only [if_pos e]; exact oz
    · simp only [if_neg e]; exact h.to_ i hi
  fx := h.fx
  fg := h.fg
  fl := h.fl
  fr := h.fr
  fp := h.fp
  fq := h.fq
  ft := fun i hi => by
    by_cases e : i = k
    · simp only [if_pos e]; exact fz
    · simp only [if_neg e]; exact h.ft i hi
  wr := ⟨h.wr.g, h.wr.l, h.wr.r.set hR⟩
/-- a row of the grid written in its place -/
theorem WIn.put {k : Nat} {R : List Int} (h : WIn K C H0 H x m w W dx g l r p q t) (hk : k < m) (hR : R.length = w) :
    WIn K C H0 (upd H (p k) (.lst (iv R))) x m w ⟨W.g.set k R, W.l, W.r⟩ dx g l r p q t :=
  { h with
    s0 := same_mut h.s0 (h.fp k hk)
    hx := by rw [upd_ne (h.pg k hk).2.2.2.symm]; exact h.hx
    hg := by rw [upd_ne (h.pg k hk).1.symm]; exact h.hg
    hl := by rw [upd_ne (h.pg k hk).2.1.symm]; exact h.hl
    hr := by rw [upd_ne (h.pg k hk).2.2.1.symm]; exact h.hr
    row := fun i hi => by
      show upd H (p k) _ (p i) = some (.lst (iv ((W.g.set k R).getD i [])))
      rw [getD_set _ _ _ _ (by rw [h.wr.g.1]; exact hk)]
      by_cases e : i = k
      · rw [if_pos e, e, upd_same]
      · rw [if_neg e, upd_ne (fun z => e (h.inj i k hi hk z))]; exact h.row i hi
    rowl := fun i hi => (by rw [upd_ne ((h.qo i hi).p k hk)]; exact h.rowl i hi)
    rowr := fun i hi => (by rw [upd_ne ((h.to_ i hi).p k hk)]; exact h.rowr i hi)
    wr := ⟨h.wr.g.set hR, h.wr.l, h.wr.r⟩ }
theorem refs_swap {n : Nat} {p : Nat → Addr} {a b : Nat} : ((refs n p).set a (.ref (p b))).set b (.ref (p a)) = refs n fun i => p (swp a b i) := by
  rw [refs_set, refs_set]
  congr 1
  funext i
  unfold swp
  by_cases e1 : i = b
  · subst e1
    by_cases e2 : i = a
    · subst e2; simp
    · simp [e2]
  · by_cases e2 : i = a
    · subst e2; simp [e1]
    · simp [e1, e2]
theorem swp_lt {n a b i : Nat} (ha : a < n) (hb : b < n) (hi : i < n) : swp a b i < n := by
  unfold swp
  split
  · exact hb
  · split
    · exact ha
    · exact hi
theorem swp_inj {a b i j : Nat} (h : swp a b i = swp a b j) : i = j := by
  unfold swp at h
  split at h <;> split at h <;> (try split at h) <;> (try split at h) <;> omega
theorem WIn.swG {a b : Nat} (h : WIn K C H0 H x m w W dx g l r p q t) (ha : a < m) (hb : b < m) :
    WIn K C H0 (upd H g (.lst (refs m fun i => p (swp a b i)))) x m w ⟨swp2 W.g a b, W.l, W.r⟩ dx g l r (fun i => p (swp a b i)) q t where
  s0 := same_mut h.s0 h.fg
  hx := by rw [upd_ne h.xg.1]; exact h.hx
  hg := upd_same
  hl := by rw [upd_ne h.gl.symm]; exact h.hl
  hr := by rw [upd_ne h.gr.symm]; exact h.hr
  row := fun i hi => by
    show upd H g _ (p (swp a b i)) = some (.lst (iv ((swp2 W.g a b).getD i [])))
    rw [getD_swp2 _ (by rw [h.wr.g.1]; exact ha) (by rw [h.wr.g.1]; exact hb), upd_ne (h.pg _ (swp_lt ha hb hi)).1]
    exact h.row _ (swp_lt ha hb hi)
  rowl := fun i hi => (by rw [upd_ne (h.qo i hi).g]; exact h.rowl i hi)
  rowr := fun i hi => (by rw [upd_ne (h.to_ i hi).g]; exact h.rowr i hi)
  inj := fun i j hi hj e => swp_inj (h.inj _ _ (swp_lt ha hb hi) (swp_lt ha hb hj) e)
  gl := h.gl
  gr := h.gr
  lr := h.lr
  pg := fun i hi => h.pg _ (swp_lt ha hb hi)
  qo := fun i hi => { h.qo i hi with p := fun j hj => (h.qo i hi).p _ (swp_lt ha hb hj) }
  to_ := fun i hi => { h.to_ i hi with p := fun j hj => (h.to_ i hi).p _ (swp_lt ha hb hj) }
  fx := h.fx
  fg := h.fg
  fl := h.fl
  fr := h.fr
  fp := fun i hi => h.fp _ (swp_lt ha hb hi)
  fq := h.fq
  ft := h.ft
  wr := ⟨h.wr.g.swp2 ha hb, h.wr.l, h.wr.r⟩
theorem WIn.swL {a b : Nat} (h : WIn K C H0 H x m w W dx g l r p q t) (ha : a < m) (hb : b < m) :
    WIn K C H0 (upd H l (.lst (refs m fun i => q (swp a b i)))) x m w ⟨W.g, swp2 W.l a b, W.r⟩ dx g l r p (fun i => q (swp a b i)) t :=
  { h with
    s0 := same_mut h.s0 h.fl
    hx := by rw [upd_ne h.xg.2.1]; exact h.hx
    hg := by rw [upd_ne h.gl]; exact h.hg
    hl := upd_same
    hr := by rw [upd_ne h.lr.symm]; exact h.hr
    row := fun i hi => by rw [upd_ne (h.pg i hi).2.1]; exact h.row i hi
    rowl := fun i hi => by
      show upd H l _ (q (swp a b i)) = some (.lst (iv ((swp2 W.l a b).getD i [])))
      rw [getD_swp2 _ (by rw [h.wr.l.1]; exact ha) (by rw [h.wr.l.1]; exact hb)]
      exact (by rw [upd_ne (h.qo _ (swp_lt ha hb hi)).l]; exact h.rowl _ (swp_lt ha hb hi))
    rowr := fun i hi => (by rw [upd_ne (h.to_ i hi).l]; exact h.rowr i hi)
    qo := fun i hi => h.qo _ (swp_lt ha hb hi)
    fq := fun i hi => h.fq _ (swp_lt ha hb hi)
    wr := ⟨h.wr.g, h.wr.l.swp2 ha hb, h.wr.r⟩ }
theorem WIn.swR {a b : Nat} (h : WIn K C H0 H x m w W dx g l r p q t) (ha : a < w) (hb : b < w) :
    WIn K C H0 (upd H r (.lst (refs w fun i => t (swp a b i)))) x m w ⟨W.g, W.l, swp2 W.r a b⟩ dx g l r p q (fun i => t (swp a b i)) :=
  { h with
    s0 := same_mut h.s0 h.fr
    hx := by rw [upd_ne h.xg.2.2]; exact h.hx
    hg := by rw [upd_ne h.gr]; exact h.hg
    hl := by rw [upd_ne h.lr]; exact h.hl
    hr := upd_same
    row := fun i hi => by rw [upd_ne (h.pg i hi).2.2.1]; exact h.row i hi
    rowl := fun i hi => (by rw [upd_ne (h.qo i hi).r]; exact h.rowl i hi)
    rowr := fun i hi => by
      show upd H r _ (t (swp a b i)) = some (.lst (iv ((swp2 W.r a b).getD i [])))
      rw [getD_swp2 _ (by rw [h.wr.r.1]; exact ha) (by rw [h.wr.r.1]; exact hb)]
      exact (by rw [upd_ne (h.to_ _ (swp_lt ha hb hi)).r]; exact h.rowr _ (swp_lt ha hb hi))
    to_ := fun i hi => h.to_ _ (swp_lt ha hb hi)
    ft := fun i hi => h.ft _ (swp_lt ha hb hi)
    wr := ⟨h.wr.g, h.wr.l, h.wr.r.swp2 ha hb⟩ }
/-- the first n rows by f, the others as they were -/
def part (f : List Int → List Int) (M : Mat) (n : Nat) : Mat := (M.take n).map f ++ M.drop n
theorem part_zero {f : List Int → List Int} {M : Mat} : part f M 0 = M := rfl
theorem part_all {f : List Int → List Int} {M : Mat} {n : Nat} (h : M.length ≤ n) : part f M n = M.map f := by
  unfold part
  rw [List.take_of_length_le h, List.drop_eq_nil_of_le h, List.append_nil]
theorem part_at {f : List Int → List Int} {M : Mat} {n i : Nat} (h : i < M.length) (hn : n ≤ M.length) : (part f M n).getD i [] = if i < n then f (M.getD i []) else M.getD i [] := by
  unfold part
  simp only [List.getD_eq_getElem?_getD]
  by_cases e : i < n
  · rw [if_pos e, List.getElem?_append_left (by rw [List.length_map, List.length_take]; omega), List.getElem?_map, List.getElem?_take, if_pos e, List.getElem?_eq_getElem h]
    rfl
  · rw [if_neg e, List.getElem?_append_right (by rw [List.length_map, List.length_take]; omega), List.getElem?_drop, List.length_map, List.length_take]
    congr 2
    omega
theorem part_next {f : List Int → List Int} {M : Mat} {n : Nat} (h : n < M.length) : (part f M n).set n (f (M.getD n [])) = part f M (n + 1) := by
  unfold part
  have l : ((M.take n).map f).length = n := by rw [List.length_map, List.length_take]; omega
  rw [List.set_append_right _ _ (by omega), l, Nat.sub_self, List.drop_eq_getElem_cons h, List.set_cons_zero, List.take_succ_eq_append_getElem h, List.map_append, List.append_assoc]
  congr 1
  simp [List.getD_eq_getElem?_getD, h]
end
end K51W

set_option maxHeartbeats 200000
/-! Work's methods. -/
namespace K51W
open PySem PySem.Spec PyProof.Rows L2 K51
theorem pe_md {X : Cx} {k : Nat} {C : Addr} {m : Str} {ps : List Str} {sp : Sp} {o e : Expr} {es : List Expr} {pos apos : Pos} {ta : TE} {t : TA} {pl : Sem Bool} (M : Md X.prog X.w X.K X.mg X.base k C m ps sp) (c : Cls X.K C) (hr : Room k X.A) (he : PE X o ta) (ha : PA X (e :: es) t)
    (hst : starEach (e :: es) X.env = (false, eval e X.env) :: starEach es X.env := by rfl) (hpl : (backTo pos (starEach es X.env)).any (·.1) = false := by rfl)
    (ht : eval (.Call (.Attribute o m apos) (e :: es) [] pos) X.env = (do
      let ov ← eval o X.env
      standAt apos.atName
      let (f, first) ← holding [ov] (getMethod ov m pl)
      callWith pos f first (backTo pos (starEach (e :: es) X.env)) (backToKw pos (keywordEach [] X.env))) := by rfl) : PE X (.Call (.Attribute o m apos) (e :: es) [] pos) (tMeth C m sp [] E0 ta t) := by
  obtain ⟨f, fd, h1, h2, h3⟩ := M.ex
  exact pe_meth he c h1 h3 hr h2 .nil pass0 ha hst hpl ht
/-- the class x at C, its __init__ keeps sp -/
structure Mc (P : Program) (w : World) (K : PySem.W.Frag) (mg : Str → Option Value) (base : Heap) (k : Nat) (x : Str) (C : Addr) (ps : List Str) (sp : Sp) : Prop where
  ex : ∃ f fd, mg x = some (.ref C) ∧ Mk K C f ∧ Binds K fd ps [] ∧ FnOk P w K mg base CX0 k f fd ps sp
theorem pe_mkc {X : Cx} {k : Nat} {x : Str} {C : Addr} {ps : List Str} {sp : Sp} {p pos : Pos} {e : Expr} {es : List Expr} {t : TA} (M : Mc X.prog X.w X.K X.mg X.base k x C ps sp) (hr : Room (k + 1) X.A) (hg : Gl X x) (ha : PA X (e :: es) t)
    (hdb : (x == ("__debug__" : Str)) = false := by decide) (he : starEach (e :: es) X.env = (false, eval e X.env) :: starEach es X.env := by rfl) (hpl : (backTo pos (starEach es X.env)).any (·.1) = false := by rfl) :
    PE X (.Call (.Name x p) (e :: es) [] pos) (tMake C sp [] E0 t) := by
  obtain ⟨f, fd, h1, h2, h3, h4⟩ := M.ex
  exact pe_make h2 h4 hr hg h1 h3 .nil pass0 ha hdb he hpl
section
variable {P : Program} {w : World} {K : PySem.W.Frag} {mg : Str → Option Value} {base : Heap} {C : Addr}
def WkOn (K : PySem.W.Frag) (C : Addr) (H0 H : Hp) (x : Addr) (m w : Nat) (W : Wk) : Prop := ∃ dx g l r p q t, WIn K C H0 H x m w W dx g l r p q t
def spTR (K : PySem.W.Frag) (C : Addr) : Sp := fun vs H Q _ => ∃ (x : Addr) (k j m w : Nat) (b : Int) (H0 : Hp) (W : Wk), vs = [.ref x, .int (k : Int), .int b, .int (j : Int)] ∧ WkOn K C H0 H x m w W ∧ k < m ∧ j < m ∧ m ≤ 1000 ∧ w ≤ 1000 ∧
  (∀ y ∈ W.g.getD j [], Mul b y) ∧ (∀ y ∈ W.l.getD j [], Mul b y) ∧ ∀ H', WkOn K C H0 H' x m w ⟨tk W.g k b j, tk W.l k b j, W.r⟩ → Q .non H'
theorem ok_take_row {f : Addr} {fd : FuncData} (F : Df K "take_row" "Work.take_row" s_Work_take_row f fd) (c : WCl K C) (h_less_multiple : Fn P w K mg base 41 "less_multiple" ["row", "by", "other"] (spLess K)) :
    FnOk P w K mg base CX0 42 f fd ["self", "k", "by", "j"] (spTR K C) := by
  refine body_ok F sc_Work_take_row (fun vs H Q E h => by obtain ⟨x, k, j, m, w, b, H0, W, rfl, _⟩ := h; rfl) (fun cdv A outer s H vs Q E hr h => ?_)
  obtain ⟨x, k, j, m, n, b, H0, W, rfl, ⟨dx, g, l, r, p, q, t, I⟩, hk, hj, hm, hn, mg_, ml, fin⟩ := h
  refine ⟨_, (pss_cons (ps_asg (pe_fn h_less_multiple (hr.mono (by decide)) (by rfl) (pa_cons (pe_ix (ixL (K := K) rfl) (fldK (K := K) rfl (pv 0) rfl) (pv 1) (fun _ _ => rfl)) (pa_cons (pv 2) (pa_cons (pe_ix (ixL (K := K) rfl) (fldK (K := K) rfl (pv 0) rfl) (pv 3) (fun _ _ => rfl)) pa_nil)))) (pg_sub (fldK (K := K) rfl (pv 0) rfl) (pv 1) set_list))
      (pss_one (ps_asg (pe_fn h_less_multiple (hr.mono (by decide)) (by rfl) (pa_cons (pe_ix (ixL (K := K) rfl) (fldK (K := K) rfl (pv 0) rfl) (pv 1) (fun _ _ => rfl)) (pa_cons (pv 2) (pa_cons (pe_ix (ixL (K := K) rfl) (fldK (K := K) rfl (pv 0) rfl) (pv 3) (fun _ _ => rfl)) pa_nil)))) (pg_sub (fldK (K := K) rfl (pv 0) rfl) (pv 1) set_list)))), ?_⟩
  have sp := fun (h : Nat) => h
  -- the grid's row
  refine ⟨_, rfl, x, C, dx, _, _, rfl, I.hx, c.cls, c.grid, rfl, _, rfl, g, _, _, _, rfl, rfl, sqL I.hg, at_of rfl (refs_at hk), _, rfl, ?_⟩
  refine ⟨_, rfl, x, C, dx, _, _, rfl, I.hx, c.cls, c.grid, rfl, _, rfl, g, _, _, _, rfl, rfl, sqL I.hg, at_of rfl (refs_at hj), ?_⟩
  refine ⟨p k, p j, _, _, b, rfl, sqL (I.row k hk), sqL (I.row j hj), by rw [I.wr.g.row hk, I.wr.g.row hj], by rw [I.wr.g.row hk]; exact hn, mg_, fun z H1 s1 nz hz => ?_⟩
  have I1 := I.same s1
  refine ⟨_, rfl, x, C, dx, _, _, rfl, I1.hx, c.cls, c.grid, rfl, _, rfl, g, _, _, k, rfl, rfl, I1.hg, by rw [refs_len]; exact ix_lt hk, ?_⟩
  have oz := I.new nz
  have I2 := I1.setG hk (I.new nz) (fun i hi => ne_of_none (I.rowl i hi) nz) (fun i hi => ne_of_none (I.rowr i hi) nz) hz (I.s0.free nz) (lessMul_len (I.wr.g.row hk) (I.wr.g.row hj))
  -- lefts' row
  refine ⟨_, rfl, x, C, dx, _, _, rfl, I2.hx, c.cls, c.lefts, rfl, _, rfl, l, _, _, _, rfl, rfl, sqL I2.hl, at_of rfl (refs_at hk), _, rfl, ?_⟩
  refine ⟨_, rfl, x, C, dx, _, _, rfl, I2.hx, c.cls, c.lefts, rfl, _, rfl, l, _, _, _, rfl, rfl, sqL I2.hl, at_of rfl (refs_at hj), ?_⟩
  refine ⟨q k, q j, _, _, b, rfl, sqL (I2.rowl k hk), sqL (I2.rowl j hj), by rw [I2.wr.l.row hk, I2.wr.l.row hj], by rw [I2.wr.l.row hk]; exact hm, ml, fun z2 H3 s3 nz2 hz2 => ?_⟩
  have I3 := I2.same s3
  refine ⟨_, rfl, x, C, dx, _, _, rfl, I3.hx, c.cls, c.lefts, rfl, _, rfl, l, _, _, k, rfl, rfl, I3.hl, by rw [refs_len]; exact ix_lt hk, ?_⟩
  exact fin _ ⟨_, _, _, _, _, _, _, I3.setL hk (I2.new nz2) hz2 (I2.s0.free nz2) (lessMul_len (I.wr.l.row hk) (I.wr.l.row hj))⟩

/-- a row less a multiple of one of its items at another -/
abbrev lessAt (k : Nat) (b : Int) (j : Nat) (r : List Int) : List Int := r.set k (r.getD k 0 - b * r.getD j 0)
theorem iv_getD {r : List Int} {j n : Nat} (h : r.length = n) (hj : j < n) : (iv r)[j]? = some (.int (r.getD j 0)) := by
  rw [List.getElem?_map, List.getElem?_eq_getElem (by omega)]
  simp [List.getD_eq_getElem?_getD, show j < r.length by omega]
theorem iv_set {r : List Int} {k : Nat} {u : Int} : (iv r).set k (.int u) = iv (r.set k u) := List.map_set.symm
def spTC (K : PySem.W.Frag) (C : Addr) : Sp := fun vs H Q _ => ∃ (x : Addr) (k j m w : Nat) (b : Int) (H0 : Hp) (W : Wk), vs = [.ref x, .int (k : Int), .int b, .int (j : Int)] ∧ WkOn K C H0 H x m w W ∧ k < w ∧ j < w ∧ m ≤ 1000 ∧ w ≤ 1000 ∧
  (∀ i, Mul b (ent W.g i j)) ∧ (∀ y ∈ W.r.getD j [], Mul b y) ∧ ∀ H', WkOn K C H0 H' x m w ⟨tkc W.g k b j, W.l, tk W.r k b j⟩ → Q .non H'
theorem ok_take_column {f : Addr} {fd : FuncData} (F : Df K "take_column" "Work.take_column" s_Work_take_column f fd) (c : WCl K C) (h_less_multiple : Fn P w K mg base 41 "less_multiple" ["row", "by", "other"] (spLess K)) :
    FnOk P w K mg base CX0 42 f fd ["self", "k", "by", "j"] (spTC K C) := by
  refine body_ok F sc_Work_take_column (fun vs H Q E h => by obtain ⟨x, k, j, m, w, b, H0, W, rfl, _⟩ := h; rfl) (fun cdv A outer s H vs Q E hr h => ?_)
  obtain ⟨x, k, j, m, n, b, H0, W, rfl, ⟨dx, g, l, r, p, q, t, I⟩, hk, hj, hm, hn, mg_, ml, fin⟩ := h
  refine ⟨_, (pss_cons (ps_for PassesOwn.never rfl (piL (K := K) rfl (fldK (K := K) rfl (pv 0) rfl)) (pg_name (i := 4) sc_Work_take_column.nd rfl (Or.inl rfl) (Or.inr rfl))
      (pss_one (ps_augS (pv 4) (pv 1) (getL (K := K) rfl) (pe_op op_mulP (pv 2) (pe_ix (ixL (K := K) rfl) (pv 4) (pv 3) (fun _ _ => rfl))) ip_sub set_list)))
      (pss_one (ps_asg (pe_fn h_less_multiple (hr.mono (by decide)) (by rfl) (pa_cons (pe_ix (ixL (K := K) rfl) (fldK (K := K) rfl (pv 0) rfl) (pv 1) (fun _ _ => rfl)) (pa_cons (pv 2) (pa_cons (pe_ix (ixL (K := K) rfl) (fldK (K := K) rfl (pv 0) rfl) (pv 3) (fun _ _ => rfl)) pa_nil)))) (pg_sub (fldK (K := K) rfl (pv 0) rfl) (pv 1) set_list)))), ?_⟩
  refine ⟨_, rfl, x, C, dx, _, _, rfl, I.hx, c.cls, c.grid, rfl, g, rfl, ⟨_, sqL I.hg⟩, ?_⟩
  have lG : W.g.length = m := I.wr.g.1
  refine for_it walk_list (fun i σ H' => ∃ y, σ = [some (.ref x), some (.int (k : Int)), some (.int b), some (.int (j : Int)), y] ∧ WIn K C H0 H' x m n ⟨part (lessAt k b j) W.g i, W.l, W.r⟩ dx g l r p q t) ⟨none, rfl, I⟩ (fun i σ H' _ ⟨y, _, I'⟩ => sqL I'.hg) ?_ ?_
  · rintro i v σ H1 H2 hi ⟨y, rfl, I1⟩ ⟨rfl, ex⟩
    rw [refs_len] at hi
    cases ex.symm.trans (refs_at hi)
    have lr := I1.wr.g.row hi
    have rowi := I1.row i hi
    have ei : (part (lessAt k b j) W.g i).getD i [] = W.g.getD i [] := by rw [part_at (by omega) (by omega), if_neg (Nat.lt_irrefl _)]
    rw [ei] at lr
    have rowi : H2 (p i) = some (.lst (iv (W.g.getD i []))) := by
      rw [← ei]; exact rowi
    refine ⟨_, rfl, _, rfl, p i, _, k, _, rfl, rfl, sqL rowi, by omega, iv_getD lr hk, ?_⟩
    refine ⟨_, rfl, _, rfl, _, rfl, p i, _, _, _, rfl, rfl, sqL rowi, at_of rfl (iv_getD lr hj), _, _, rfl, rfl, mg_ i, ?_⟩
    refine ⟨_, _, rfl, rfl, p i, _, k, k, rfl, rfl, rowi, by rw [List.length_map, lr]; exact ix_lt hk, _, rfl, ?_⟩
    have e1 : (iv (W.g.getD i [])).set k (.int ((W.g.getD i []).getD k 0 - b * (W.g.getD i []).getD j 0)) = iv (lessAt k b j (W.g.getD i [])) := iv_set
    have I2 := I1.put (R := lessAt k b j (W.g.getD i [])) hi (by rw [List.length_set]; exact lr)
    rw [← e1, part_next (by omega)] at I2
    exact I2
  · rintro σ H1 ⟨y, rfl, I1⟩
    rw [refs_len, part_all (by omega)] at I1
    refine ⟨_, rfl, x, C, dx, _, _, rfl, I1.hx, c.cls, c.rights, rfl, _, rfl, r, _, _, _, rfl, rfl, sqL I1.hr, at_of rfl (refs_at hk), _, rfl, ?_⟩
    refine ⟨_, rfl, x, C, dx, _, _, rfl, I1.hx, c.cls, c.rights, rfl, _, rfl, r, _, _, _, rfl, rfl, sqL I1.hr, at_of rfl (refs_at hj), ?_⟩
    refine ⟨t k, t j, _, _, b, rfl, sqL (I1.rowr k hk), sqL (I1.rowr j hj), by rw [I1.wr.r.row hk, I1.wr.r.row hj], by rw [I1.wr.r.row hk]; exact hn, ml, fun z2 H3 s3 nz2 hz2 => ?_⟩
    have I3 := I1.same s3
    refine ⟨_, rfl, x, C, dx, _, _, rfl, I3.hx, c.cls, c.rights, rfl, _, rfl, r, _, _, k, rfl, rfl, I3.hr, by rw [refs_len]; exact ix_lt hk, ?_⟩
    exact fin _ ⟨_, _, _, _, _, _, _, I3.setR hk (I1.new nz2) hz2 (I1.s0.free nz2) (lessMul_len (I.wr.r.row hk) (I.wr.r.row hj))⟩

abbrev swapAt (a b : Nat) (r : List Int) : List Int := (r.set a (r.getD b 0)).set b (r.getD a 0)
def spSw (K : PySem.W.Frag) (C : Addr) : Sp := fun vs H Q _ => ∃ (x : Addr) (k j s m w : Nat) (H0 : Hp) (W : Wk), vs = [.ref x, .int (k : Int), .int (j : Int), .int (s : Int)] ∧ WkOn K C H0 H x m w W ∧ k < m ∧ j < w ∧ s < m ∧ s < w ∧ m ≤ 1000 ∧ w ≤ 1000 ∧
  ∀ H', WkOn K C H0 H' x m w (swapW W s k j) → Q .non H'
theorem ok_swap {f : Addr} {fd : FuncData} (F : Df K "swap" "Work.swap" s_Work_swap f fd) (c : WCl K C) :
    FnOk P w K mg base CX0 41 f fd ["self", "k", "j", "start"] (spSw K C) := by
  refine body_ok F sc_Work_swap (fun vs H Q E h => by obtain ⟨x, k, j, s, m, w, H0, W, rfl, _⟩ := h; rfl) (fun cdv A outer s H vs Q E hr h => ?_)
  obtain ⟨x, k, j, s, m, n, H0, W, rfl, ⟨dx, g, l, r, p, q, t, I⟩, hk, hj, hs, hs2, hm, hn, fin⟩ := h
  refine ⟨_, (pss_cons (ps_asg (pe_tup (pa_cons (pe_ix (ixL (K := K) rfl) (fldK (K := K) rfl (pv 0) rfl) (pv 1) (fun _ _ => rfl)) (pa_cons (pe_ix (ixL (K := K) rfl) (fldK (K := K) rfl (pv 0) rfl) (pv 3) (fun _ _ => rfl)) pa_nil))) (tupG (K := K) (n := 2) rfl rfl (pgs_cons (pg_sub (fldK (K := K) rfl (pv 0) rfl) (pv 3) set_list) (pgs_cons (pg_sub (fldK (K := K) rfl (pv 0) rfl) (pv 1) set_list) pgs_nil)) rfl rfl))
      (pss_cons (ps_asg (pe_tup (pa_cons (pe_ix (ixL (K := K) rfl) (fldK (K := K) rfl (pv 0) rfl) (pv 1) (fun _ _ => rfl)) (pa_cons (pe_ix (ixL (K := K) rfl) (fldK (K := K) rfl (pv 0) rfl) (pv 3) (fun _ _ => rfl)) pa_nil))) (tupG (K := K) (n := 2) rfl rfl (pgs_cons (pg_sub (fldK (K := K) rfl (pv 0) rfl) (pv 3) set_list) (pgs_cons (pg_sub (fldK (K := K) rfl (pv 0) rfl) (pv 1) set_list) pgs_nil)) rfl rfl))
      (pss_cons (ps_for PassesOwn.never rfl (piL (K := K) rfl (fldK (K := K) rfl (pv 0) rfl)) (pg_name (i := 4) sc_Work_swap.nd rfl (Or.inl rfl) (Or.inr rfl))
      (pss_one (ps_asg (pe_tup (pa_cons (pe_ix (ixL (K := K) rfl) (pv 4) (pv 2) (fun _ _ => rfl)) (pa_cons (pe_ix (ixL (K := K) rfl) (pv 4) (pv 3) (fun _ _ => rfl)) pa_nil))) (tupG (K := K) (n := 2) rfl rfl (pgs_cons (pg_sub (pv 4) (pv 3) set_list) (pgs_cons (pg_sub (pv 4) (pv 2) set_list) pgs_nil)) rfl rfl))))
      (pss_one (ps_asg (pe_tup (pa_cons (pe_ix (ixL (K := K) rfl) (fldK (K := K) rfl (pv 0) rfl) (pv 2) (fun _ _ => rfl)) (pa_cons (pe_ix (ixL (K := K) rfl) (fldK (K := K) rfl (pv 0) rfl) (pv 3) (fun _ _ => rfl)) pa_nil))) (tupG (K := K) (n := 2) rfl rfl (pgs_cons (pg_sub (fldK (K := K) rfl (pv 0) rfl) (pv 3) set_list) (pgs_cons (pg_sub (fldK (K := K) rfl (pv 0) rfl) (pv 2) set_list) pgs_nil)) rfl rfl)))))), ?_⟩
  -- the grid's rows
  refine ⟨_, rfl, x, C, dx, _, _, rfl, I.hx, c.cls, c.grid, rfl, _, rfl, g, _, _, _, rfl, rfl, sqL I.hg, at_of rfl (refs_at hk), ?_⟩
  refine ⟨_, rfl, x, C, dx, _, _, rfl, I.hx, c.cls, c.grid, rfl, _, rfl, g, _, _, _, rfl, rfl, sqL I.hg, at_of rfl (refs_at hs), by show 2 ≤ sizeLine; decide, fun T0 hT0 => ?_⟩
  have I1 := I.same (same_new (o := .tup [.ref (p k), .ref (p s)]) hT0)
  refine ⟨T0, [.ref (p k), .ref (p s)], rfl, sqT upd_same, rfl, _, _, rfl, ?_⟩
  refine ⟨_, rfl, x, C, dx, _, _, rfl, I1.hx, c.cls, c.grid, rfl, _, rfl, g, _, _, s, rfl, rfl, I1.hg, by rw [refs_len]; exact ix_lt hs, _, _, rfl, ?_⟩
  refine ⟨_, rfl, x, C, dx, _, _, rfl, by rw [upd_ne I1.xg.1]; exact I1.hx, c.cls, c.grid, rfl, _, rfl, g, _, _, k, rfl, rfl, upd_same, by rw [List.length_set, refs_len]; exact ix_lt hk, rfl, ?_⟩
  rw [upd_twice, refs_swap]
  have I2 := I1.swG hs hk
  clear I1 hT0
  revert I2
  generalize upd (upd H T0 (HO.tup [.ref (p k), .ref (p s)])) g (HO.lst (refs m fun i => p (swp s k i))) = H2
  intro I2
  -- the rows of lefts
  refine ⟨_, rfl, x, C, dx, _, _, rfl, I2.hx, c.cls, c.lefts, rfl, _, rfl, l, _, _, _, rfl, rfl, sqL I2.hl, at_of rfl (refs_at hk), ?_⟩
  refine ⟨_, rfl, x, C, dx, _, _, rfl, I2.hx, c.cls, c.lefts, rfl, _, rfl, l, _, _, _, rfl, rfl, sqL I2.hl, at_of rfl (refs_at hs), by show 2 ≤ sizeLine; decide, fun T0 hT0 => ?_⟩
  have I3 := I2.same (same_new (o := .tup [.ref (q k), .ref (q s)]) hT0)
  refine ⟨T0, [.ref (q k), .ref (q s)], rfl, sqT upd_same, rfl, _, _, rfl, ?_⟩
  refine ⟨_, rfl, x, C, dx, _, _, rfl, I3.hx, c.cls, c.lefts, rfl, _, rfl, l, _, _, s, rfl, rfl, I3.hl, by rw [refs_len]; exact ix_lt hs, _, _, rfl, ?_⟩
  refine ⟨_, rfl, x, C, dx, _, _, rfl, by rw [upd_ne I3.xg.2.1]; exact I3.hx, c.cls, c.lefts, rfl, _, rfl, l, _, _, k, rfl, rfl, upd_same, by rw [List.length_set, refs_len]; exact ix_lt hk, rfl, ?_⟩
  rw [upd_twice, refs_swap]
  have I4 := I3.swL hs hk
  clear I3 hT0
  revert I4
  generalize upd (upd H2 T0 (HO.tup [.ref (q k), .ref (q s)])) l (HO.lst (refs m fun i => q (swp s k i))) = H4
  intro I4
  -- the columns
  refine ⟨_, rfl, x, C, dx, _, _, rfl, I4.hx, c.cls, c.grid, rfl, g, rfl, ⟨_, sqL I4.hg⟩, ?_⟩
  have lG : (swp2 W.g s k).length = m := I4.wr.g.1
  refine for_it walk_list (fun i σ H' => ∃ y, σ = [some (.ref x), some (.int (k : Int)), some (.int (j : Int)), some (.int (s : Int)), y] ∧ WIn K C H0 H' x m n ⟨part (swapAt s j) (swp2 W.g s k) i, swp2 W.l s k, W.r⟩ dx g l r (fun i => p (swp s k i)) (fun i => q (swp s k i)) t) ⟨none, rfl, I4⟩ (fun i σ H' _ ⟨y, _, I'⟩ => sqL I'.hg) ?_ ?_
  · rintro i v σ H5 H6 hi ⟨y, rfl, I5⟩ ⟨rfl, ex⟩
    rw [refs_len] at hi
    cases ex.symm.trans (refs_at hi)
    have ei : (part (swapAt s j) (swp2 W.g s k) i).getD i [] = (swp2 W.g s k).getD i [] := by rw [part_at (by omega) (by omega), if_neg (Nat.lt_irrefl _)]
    have lr := I5.wr.g.row hi
    rw [ei] at lr
    have rowi : H6 (p (swp s k i)) = some (.lst (iv ((swp2 W.g s k).getD i []))) := by
      rw [← ei]; exact I5.row i hi
    refine ⟨_, rfl, _, rfl, p (swp s k i), _, _, _, rfl, rfl, sqL rowi, at_of rfl (iv_getD lr hj), ?_⟩
    refine ⟨_, rfl, _, rfl, p (swp s k i), _, _, _, rfl, rfl, sqL rowi, at_of rfl (iv_getD lr hs2), by show 2 ≤ sizeLine; decide, fun T0 hT0 => ?_⟩
    have I7 := I5.same (same_new (o := .tup [.int (((swp2 W.g s k).getD i []).getD j 0), .int (((swp2 W.g s k).getD i []).getD s 0)]) hT0)
    refine ⟨T0, [.int (((swp2 W.g s k).getD i []).getD j 0), .int (((swp2 W.g s k).getD i []).getD s 0)], rfl, sqT upd_same, rfl, _, _, rfl, ?_⟩
    refine ⟨_, rfl, _, rfl, p (swp s k i), _, _, s, rfl, rfl, same_new hT0 _ _ rowi, by rw [List.length_map, lr]; exact ix_lt hs2, _, _, rfl, ?_⟩
    refine ⟨_, rfl, _, rfl, p (swp s k i), _, _, j, rfl, rfl, upd_same, by rw [List.length_set, List.length_map, lr]; exact ix_lt hj, rfl, _, rfl, ?_⟩
    have e1 : ((iv ((swp2 W.g s k).getD i [])).set s (.int (((swp2 W.g s k).getD i []).getD j 0))).set j (.int (((swp2 W.g s k).getD i []).getD s 0)) = iv (swapAt s j ((swp2 W.g s k).getD i [])) := by
      rw [iv_set, iv_set]
    have I8 := I7.put (R := swapAt s j ((swp2 W.g s k).getD i [])) hi (by rw [List.length_set, List.length_set]; exact lr)
    rw [← e1, part_next (by omega)] at I8
    rw [upd_twice]
    exact I8
  · rintro σ H5 ⟨y, rfl, I5⟩
    rw [refs_len, part_all (by omega)] at I5
    refine ⟨_, rfl, x, C, dx, _, _, rfl, I5.hx, c.cls, c.rights, rfl, _, rfl, r, _, _, _, rfl, rfl, sqL I5.hr, at_of rfl (refs_at hj), ?_⟩
    refine ⟨_, rfl, x, C, dx, _, _, rfl, I5.hx, c.cls, c.rights, rfl, _, rfl, r, _, _, _, rfl, rfl, sqL I5.hr, at_of rfl (refs_at hs2), by show 2 ≤ sizeLine; decide, fun T0 hT0 => ?_⟩
    have I6 := I5.same (same_new (o := .tup [.ref (t j), .ref (t s)]) hT0)
    refine ⟨T0, [.ref (t j), .ref (t s)], rfl, sqT upd_same, rfl, _, _, rfl, ?_⟩
    refine ⟨_, rfl, x, C, dx, _, _, rfl, I6.hx, c.cls, c.rights, rfl, _, rfl, r, _, _, s, rfl, rfl, I6.hr, by rw [refs_len]; exact ix_lt hs2, _, _, rfl, ?_⟩
    refine ⟨_, rfl, x, C, dx, _, _, rfl, by rw [upd_ne I6.xg.2.2]; exact I6.hx, c.cls, c.rights, rfl, _, rfl, r, _, _, j, rfl, rfl, upd_same, by rw [List.length_set, refs_len]; exact ix_lt hj, rfl, ?_⟩
    rw [upd_twice, refs_swap]
    exact fin _ ⟨_, _, _, _, _, _, _, I6.swR hs2 hj⟩
end
end K51W

set_option maxHeartbeats 200000
/-! Work.smallest, Work.uneven. -/
namespace K51W
open PySem PySem.Spec PyProof.Rows L2 K51
/-- the smallest of the cells of S -/
def SmS (g : Mat) (s : Nat) (S : Nat → Nat → Prop) : Option (Nat × Nat) → Prop
  | none => ∀ i j, S i j → ent g i j = 0
  | some (k, j) => S k j ∧ ent g k j ≠ 0 ∧ (∀ i' j', S i' j' → ent g i' j' ≠ 0 → (ent g k j).natAbs ≤ (ent g i' j').natAbs) ∧ ((k = s ∧ j = s) ∨ ent g s s = 0 ∨ (ent g k j).natAbs < (ent g s s).natAbs)
section
variable {g : Mat} {s : Nat} {S S' : Nat → Nat → Prop}
theorem SmS.cell {best : Option (Nat × Nat)} (h : SmS g s S best) (e : ∀ i j, S i j ↔ S' i j) : SmS g s S' best := by
  cases best with
  | none => exact fun i j q => h i j ((e i j).mpr q)
  | some b =>
    obtain ⟨k, j⟩ := b
    obtain ⟨h1, h2, h3, h4⟩ := h
    exact ⟨(e k j).mp h1, h2, fun i' j' q => h3 i' j' ((e i' j').mpr q), h4⟩
theorem SmS.skip0 {best : Option (Nat × Nat)} {a b : Nat} (h : SmS g s S best) (e : ∀ i j, S' i j ↔ S i j ∨ (i = a ∧ j = b)) (z : ent g a b = 0) : SmS g s S' best := by
  cases best with
  | none =>
    intro i j q
    rcases (e i j).mp q with q | ⟨rfl, rfl⟩
    · exact h i j q
    · exact z
  | some c =>
    obtain ⟨k, j⟩ := c
    obtain ⟨h1, h2, h3, h4⟩ := h
    refine ⟨(e k j).mpr (.inl h1), h2, fun i' j' q n => ?_, h4⟩
    rcases (e i' j').mp q with q | ⟨rfl, rfl⟩
    · exact h3 i' j' q n
    · exact absurd z n
theorem SmS.skipL {a b k j : Nat} (h : SmS g s S (some (k, j))) (e : ∀ i j, S' i j ↔ S i j ∨ (i = a ∧ j = b)) (z : ¬ (ent g a b).natAbs < (ent g k j).natAbs) : SmS g s S' (some (k, j)) := by
  obtain ⟨h1, h2, h3, h4⟩ := h
  refine ⟨(e k j).mpr (.inl h1), h2, fun i' j' q n => ?_, h4⟩
  rcases (e i' j').mp q with q | ⟨rfl, rfl⟩
  · exact h3 i' j' q n
  · omega
theorem SmS.take {best : Option (Nat × Nat)} {a b : Nat} (h : SmS g s S best) (e : ∀ i j, S' i j ↔ S i j ∨ (i = a ∧ j = b)) (n0 : ent g a b ≠ 0) (hd : (a = s ∧ b = s) ∨ S s s)
    (z : ∀ k j, best = some (k, j) → (ent g a b).natAbs < (ent g k j).natAbs) : SmS g s S' (some (a, b)) := by
  refine ⟨(e a b).mpr (.inr ⟨rfl, rfl⟩), n0, fun i' j' q n => ?_, ?_⟩
  · rcases (e i' j').mp q with q | ⟨rfl, rfl⟩
    · cases best with
      | none => exact absurd (h i' j' q) n
      | some c =>
        obtain ⟨k, j⟩ := c
        have := z k j rfl
        have := h.2.2.1 i' j' q n
        omega
    · exact Nat.le_refl _
  · rcases hd with hd | hd
    · exact .inl hd
    · cases best with
      | none => exact .inr (.inl (h s s hd))
      | some c =>
        obtain ⟨k, j⟩ := c
        have := z k j rfl
        rcases h.2.2.2 with ⟨rfl, rfl⟩ | q | q
        · exact .inr (.inr this)
        · exact .inr (.inl q)
        · exact .inr (.inr (by omega))
end
section
variable {P : Program} {w : World} {K : PySem.W.Frag} {mg : Str → Option Value} {base : Heap} {C : Addr}
def optT (K : PySem.W.Frag) (g : Mat) (H : Hp) (v : V) : Option (Nat × Nat) → Prop
  | none => v = .non
  | some (k, j) => ∃ T, v = .ref T ∧ H T = some (.tup [.int ((ent g k j).natAbs : Int), .int (k : Int), .int (j : Int)])
theorem optT.up {g : Mat} {H H' : Hp} {v : V} {best : Option (Nat × Nat)} (s : Same H H') (h : optT K g H v best) : optT K g H' v best := by
  cases best with
  | none => exact h
  | some b =>
    obtain ⟨k, j⟩ := b
    obtain ⟨T, h1, h2⟩ := h
    exact ⟨T, h1, s _ _ h2⟩
def spSmall (K : PySem.W.Frag) (C : Addr) : Sp := fun vs H Q _ => ∃ (x : Addr) (s m w : Nat) (H0 : Hp) (W : Wk), vs = [.ref x, .int (s : Int)] ∧ WkOn K C H0 H x m w W ∧ s ≤ m ∧ s ≤ w ∧ m ≤ 1000 ∧ w ≤ 1000 ∧
  ∀ best v H', Same H H' → SmG W.g m w s best → optT K W.g H' v best → Q v H'
theorem ok_smallest {f : Addr} {fd : FuncData} (F : Df K "smallest" "Work.smallest" s_Work_smallest f fd) (c : WCl K C) (T : Bn mg) :
    FnOk P w K mg base CX0 41 f fd ["self", "start"] (spSmall K C) := by
  refine body_ok F sc_Work_smallest (fun vs H Q E h => by obtain ⟨x, s, m, w, H0, W, rfl, _⟩ := h; rfl) (fun cdv A outer s H vs Q E hr h => ?_)
  obtain ⟨x, s, m, n, H0, W, rfl, ⟨dx, g, l, r, p, q, t, I⟩, hs, hs2, hm, hn, fin⟩ := h
  refine ⟨_, (pss_cons (ps_set (i := 2) sc_Work_smallest.nd rfl (Or.inl rfl) pe_non)
      (pss_cons (ps_for PassesOwn.never rfl (pi_range2 (by rfl) T.range (pa_cons (pv 1) (pa_cons (fldK (K := K) rfl (pv 0) rfl) pa_nil))) (pg_name (i := 3) sc_Work_smallest.nd rfl (Or.inl rfl) (Or.inr rfl))
      (pss_one (ps_for PassesOwn.never rfl (pi_range2 (by rfl) T.range (pa_cons (pv 1) (pa_cons (fldK (K := K) rfl (pv 0) rfl) pa_nil))) (pg_name (i := 4) sc_Work_smallest.nd rfl (Or.inl rfl) (Or.inr rfl))
      (pss_cons (ps_set (i := 5) sc_Work_smallest.nd rfl (Or.inl rfl) (pe_callB call_abs (by rfl) T.abs (by decide +kernel) (pa_cons (pe_ix (ixL (K := K) rfl) (pe_ix (ixL (K := K) rfl) (fldK (K := K) rfl (pv 0) rfl) (pv 3) (fun _ _ => rfl)) (pv 4) (fun _ _ => rfl)) pa_nil)))
      (pss_one (ps_if (PW.pt (pw_and (pt_cmpR op_ne (pv 5) pe_int (nomark _)) (pw_and1 (PW.pt (pw_or (pt_cmp (pc_isN (pv 2))) (pw_or1 (pt_cmpR op_lt (pv 5) (pe_ix (ixT (K := K) rfl) (pv 2) pe_int (fun _ _ => rfl)) (nomark _)))))))) (pss_one (ps_set (i := 2) sc_Work_smallest.nd rfl (Or.inl rfl) (pe_tup (pa_cons (pv 5) (pa_cons (pv 3) (pa_cons (pv 4) pa_nil)))))) pss_nil))))))
      (pss_one (ps_ret (pv 2))))), ?_⟩
  refine ⟨_, rfl, _, rfl, x, C, dx, _, _, rfl, I.hx, c.cls, c.many, rfl, _, _, rfl, by omega, ?_⟩
  refine for_it walk_range (fun i σ H' => ∃ best v y3 y4 y5, σ = [some (.ref x), some (.int (s : Int)), some v, y3, y4, y5] ∧ Same H H' ∧ optT K W.g H' v best ∧ SmS W.g s (fun a b => s ≤ a ∧ a < s + i ∧ s ≤ b ∧ b < n) best)
    ⟨none, .non, none, none, none, rfl, Same.refl _, rfl, fun i j q => by omega⟩ (fun _ _ _ _ _ => trivial) ?_ ?_
  · rintro i xv σ H1 H2 hi ⟨best, v, y3, y4, y5, rfl, s1, ot, sm⟩ ⟨rfl, rfl⟩
    have I1 := I.same s1
    have him : s + i < m := by omega
    have ei : (s : Int) + (i : Int) = ((s + i : Nat) : Int) := by omega
    refine ⟨_, rfl, _, rfl, x, C, dx, _, _, rfl, I1.hx, c.cls, c.wide, rfl, _, _, rfl, by omega, ?_⟩
    refine for_it walk_range (fun j σ H' => ∃ best v y4 y5, σ = [some (.ref x), some (.int (s : Int)), some v, some (.int ((s : Int) + (i : Int))), y4, y5] ∧ Same H H' ∧ optT K W.g H' v best ∧ SmS W.g s (fun a b => s ≤ a ∧ s ≤ b ∧ b < n ∧ (a < s + i ∨ (a = s + i ∧ b < s + j))) best)
      ⟨best, v, y4, y5, rfl, s1, ot, sm.cell fun a b => by omega⟩ (fun _ _ _ _ _ => trivial) ?_ ?_
    · rintro j xv2 σ H3 H4 hj ⟨best, v, y4, y5, rfl, s3, ot, sm⟩ ⟨rfl, rfl⟩
      have I3 := I.same s3
      have hjn : s + j < n := by omega
      have ej : (s : Int) + (j : Int) = ((s + j : Nat) : Int) := by omega
      have cell : (iv (W.g.getD (s + i) []))[s + j]? = some (.int (ent W.g (s + i) (s + j))) := iv_at I.wr.g him hjn
      refine ⟨_, rfl, x, C, dx, _, _, rfl, I3.hx, c.cls, c.grid, rfl, _, rfl, g, _, _, _, rfl, rfl, sqL I3.hg, at_of ei (refs_at him), _, rfl, p (s + i), _, _, _, rfl, rfl, sqL (I3.row _ him), at_of ej cell, _, rfl, ?_⟩
      have eabs : (if ent W.g (s + i) (s + j) < 0 then - ent W.g (s + i) (s + j) else ent W.g (s + i) (s + j)) = ((ent W.g (s + i) (s + j)).natAbs : Int) := by split <;> omega
      rw [eabs]
      have add : ∀ a b, (s ≤ a ∧ s ≤ b ∧ b < n ∧ (a < s + i ∨ (a = s + i ∧ b < s + (j + 1)))) ↔ (s ≤ a ∧ s ≤ b ∧ b < n ∧ (a < s + i ∨ (a = s + i ∧ b < s + j))) ∨ (a = s + i ∧ b = s + j) := fun a b => by omega
      refine ⟨_, rfl, rfl, _, rfl, ?_⟩
      by_cases e0 : ent W.g (s + i) (s + j) = 0
      · have : decide (V.int ((ent W.g (s + i) (s + j)).natAbs : Int) = V.int 0) = true := decide_eq_true (by rw [e0]; rfl)
        rw [this]
        refine iteF (iteF ?_)
        exact ⟨best, v, _, _, rfl, s3, ot, sm.skip0 add e0⟩
      · have : decide (V.int ((ent W.g (s + i) (s + j)).natAbs : Int) = V.int 0) = false := decide_eq_false (fun z => by have := V.int.inj z; omega)
        rw [this]
        refine iteT ?_
        have hd : (s + i = s ∧ s + j = s) ∨ (s ≤ s ∧ s ≤ s ∧ s < n ∧ (s < s + i ∨ (s = s + i ∧ s < s + j))) := by omega
        refine ⟨_, rfl, _, rfl, ?_⟩
        have new : ∀ (z : ∀ k j', best = some (k, j') → (ent W.g (s + i) (s + j)).natAbs < (ent W.g k j').natAbs) (T0 : Addr), H4 T0 = none →
          (∃ best v y4 y5, [some (V.ref x), some (V.int (s : Int)), some (V.ref T0), some (.int ((s : Int) + (i : Int))), some (.int ((s : Int) + (j : Int))), some (.int ((ent W.g (s + i) (s + j)).natAbs : Int))] = [some (.ref x), some (.int (s : Int)), some v, some (.int ((s : Int) + (i : Int))), y4, y5] ∧
            Same H (upd H4 T0 (.tup [.int ((ent W.g (s + i) (s + j)).natAbs : Int), .int ((s : Int) + (i : Int)), .int ((s : Int) + (j : Int))])) ∧ optT K W.g (upd H4 T0 (.tup [.int ((ent W.g (s + i) (s + j)).natAbs : Int), .int ((s : Int) + (i : Int)), .int ((s : Int) + (j : Int))])) v best ∧
            SmS W.g s (fun a b => s ≤ a ∧ s ≤ b ∧ b < n ∧ (a < s + i ∨ (a = s + i ∧ b < s + (j + 1)))) best) := fun z T0 hT0 =>
          ⟨some (s + i, s + j), _, _, _, rfl, s3.trans (same_new hT0), ⟨T0, rfl, by rw [upd_same, ei, ej]⟩, sm.take add e0 hd z⟩
        cases best with
        | none =>
          cases ot
          refine iteT (iteT ?_)
          exact ⟨_, rfl, _, rfl, _, rfl, by show 3 ≤ sizeLine; decide, fun T0 hT0 => new (fun _ _ z => nomatch z) T0 hT0⟩
        | some b =>
          obtain ⟨k', j'⟩ := b
          obtain ⟨T1, rfl, hT1⟩ := ot
          refine iteF ?_
          refine ⟨_, rfl, _, rfl, T1, _, 0, _, rfl, rfl, sqT hT1, atI_nat (j := 0) rfl, _, _, rfl, rfl, _, rfl, ?_⟩
          by_cases lt : ((ent W.g (s + i) (s + j)).natAbs : Int) < ((ent W.g k' j').natAbs : Int)
          · rw [decide_eq_true lt]
            exact ⟨_, rfl, _, rfl, _, rfl, by show 3 ≤ sizeLine; decide, fun T0 hT0 => new (fun a b z => by cases z; omega) T0 hT0⟩
          · rw [decide_eq_false lt]
            exact ⟨some (k', j'), _, _, _, rfl, s3, ⟨T1, rfl, hT1⟩, sm.skipL add (by omega)⟩
    · rintro σ H3 ⟨best, v, y4, y5, rfl, s3, ot, sm⟩
      exact ⟨best, v, _, _, _, rfl, s3, ot, sm.cell fun a b => by omega⟩
  · rintro σ H1 ⟨best, v, y3, y4, y5, rfl, s1, ot, sm⟩
    refine ⟨_, rfl, fin best v _ s1 ?_ ot⟩
    have sm := sm.cell (S' := fun a b => s ≤ a ∧ a < m ∧ s ≤ b ∧ b < n) fun a b => by omega
    cases best with
    | none => exact fun i j h1 h2 h3 h4 => sm i j ⟨h1, h2, h3, h4⟩
    | some b =>
      obtain ⟨k', j'⟩ := b
      obtain ⟨a1, a2, a3, a4⟩ := sm
      exact ⟨a1, a2, fun i' j' h1 h2 h3 h4 => a3 i' j' ⟨h1, h2, h3, h4⟩, a4⟩
end
end K51W

set_option maxHeartbeats 200000
/-! Work.uneven, Work.crossed_out. -/
namespace K51W
open PySem PySem.Spec PyProof.Rows L2 K51
section
variable {P : Program} {w : World} {K : PySem.W.Frag} {mg : Str → Option Value} {base : Heap} {C : Addr}
theorem fmod_zero {a b : Int} (h : b ≠ 0) : a.fmod b = 0 ↔ b ∣ a := by
  constructor
  · intro e
    have := Int.mul_fdiv_add_fmod a b
    rw [e, Int.add_zero] at this
    exact ⟨_, this.symm⟩
  · rintro ⟨c, rfl⟩
    exact Int.mul_fmod_right b c
theorem drop_at {r : List Int} {k : Nat} {u : Int} : (∃ j, k ≤ j ∧ j < r.length ∧ r.getD j 0 = u) ↔ u ∈ r.drop k := by
  constructor
  · rintro ⟨j, h1, h2, rfl⟩
    refine List.mem_of_getElem? (i := j - k) ?_
    rw [List.getElem?_drop, show k + (j - k) = j by omega, List.getElem?_eq_getElem h2]
    simp [List.getD_eq_getElem?_getD, h2]
  · intro h
    obtain ⟨i, hi, e⟩ := List.getElem_of_mem h
    rw [List.length_drop] at hi
    refine ⟨k + i, by omega, by omega, ?_⟩
    rw [← e, List.getElem_drop]
    simp [List.getD_eq_getElem?_getD, show k + i < r.length by omega]
def spUn (K : PySem.W.Frag) (C : Addr) : Sp := fun vs H Q _ => ∃ (x : Addr) (s m w : Nat) (H0 : Hp) (W : Wk), vs = [.ref x, .int (s : Int)] ∧ WkOn K C H0 H x m w W ∧ s < m ∧ s < w ∧ m ≤ 1000 ∧ w ≤ 1000 ∧ ent W.g s s ≠ 0 ∧
  ∀ o H', Same H H' → Unev W.g m w s o → Q (optV o) H'
theorem ok_uneven {f : Addr} {fd : FuncData} (F : Df K "uneven" "Work.uneven" s_Work_uneven f fd) (c : WCl K C) (T : Bn mg) :
    FnOk P w K mg base CX0 41 f fd ["self", "start"] (spUn K C) := by
  refine body_ok F sc_Work_uneven (fun vs H Q E h => by obtain ⟨x, s, m, w, H0, W, rfl, _⟩ := h; rfl) (fun cdv A outer s H vs Q E hr h => ?_)
  obtain ⟨x, s, m, n, H0, W, rfl, ⟨dx, g, l, r, p, q, t, I⟩, hs, hs2, hm, hn, hp, fin⟩ := h
  refine ⟨_, (pss_cons (ps_set (i := 2) sc_Work_uneven.nd rfl (Or.inr rfl) (pe_ix (ixL (K := K) rfl) (pe_ix (ixL (K := K) rfl) (fldK (K := K) rfl (pv 0) rfl) (pv 1) (fun _ _ => rfl)) (pv 1) (fun _ _ => rfl)))
      (pss_cons (ps_for PassesOwn.never rfl (pi_range2 (by rfl) T.range (pa_cons (pe_op op_add (pv 1) pe_int) (pa_cons (fldK (K := K) rfl (pv 0) rfl) pa_nil))) (pg_name (i := 3) sc_Work_uneven.nd rfl (Or.inl rfl) (Or.inr rfl))
      (pss_one (ps_if (pt_val (pe_callB (anyK (K := K) rfl rfl) (by rfl) T.any (by decide +kernel) (pa_cons (pe_lc (own := [("item", 4)]) (by rfl) sc_Work_uneven.nd (piL (K := K) rfl (pe_slice (slL (K := K) rfl) (pe_ix (ixL (K := K) rfl) (fldK (K := K) rfl (pv 0) rfl) (pv 3) (fun _ _ => rfl)) (po_some (pe_op op_add (pv 1) pe_int)) po_none)) (blkOk_by (N := ["self", "start", "pivot", "k", "item"]) (sc := defScope s_Work_uneven) (own := [("item", 4)]) (by decide +kernel)) (fun _ _ _ _ _ => (pg_name (i := 4) sc_Work_uneven.nd rfl (Or.inl rfl) (Or.inr rfl))) (fun _ _ _ _ _ => pts_nil) (fun _ _ _ _ _ => (pe_cmpR op_ne (pe_op op_modN (pv 4) (pv 2)) pe_int (nomark _)))) pa_nil))) (pss_one (ps_ret (pv 3))) pss_nil)))
      (pss_one (ps_ret pe_non)))), ?_⟩
  refine ⟨_, rfl, x, C, dx, _, _, rfl, I.hx, c.cls, c.grid, rfl, _, rfl, g, _, _, _, rfl, rfl, sqL I.hg, at_of rfl (refs_at hs), _, rfl, p s, _, _, _, rfl, rfl, sqL (I.row s hs), at_of rfl (iv_at I.wr.g hs hs2), ?_⟩
  refine ⟨_, rfl, _, _, rfl, rfl, _, rfl, x, C, dx, _, _, rfl, I.hx, c.cls, c.many, rfl, _, _, rfl, by omega, ?_⟩
  refine for_it walk_range (fun i σ H' => ∃ y4, σ = [some (.ref x), some (.int (s : Int)), some (.int (ent W.g s s)), y4, none] ∧ Same H H' ∧ ∀ a b, s < a → a < s + 1 + i → s < b → b < n → ent W.g s s ∣ ent W.g a b)
    ⟨none, rfl, Same.refl _, fun a b => by omega⟩ (fun _ _ _ _ _ => trivial) ?_ ?_
  · rintro i xv σ H1 H2 hi ⟨y4, rfl, s1, hd⟩ ⟨rfl, rfl⟩
    have I1 := I.same s1
    have him : s + 1 + i < m := by omega
    have ei : (s : Int) + 1 + (i : Int) = ((s + 1 + i : Nat) : Int) := by omega
    have lr : (W.g.getD (s + 1 + i) []).length = n := I.wr.g.row him
    refine ⟨_, rfl, x, C, dx, _, _, rfl, I1.hx, c.cls, c.grid, rfl, _, rfl, g, _, _, _, rfl, rfl, sqL I1.hg, at_of ei (refs_at him), _, rfl, _, _, rfl, rfl, _, rfl, p (s + 1 + i), _, rfl, sqL (I1.row _ him), fun Z hZ => ?_⟩
    have es : (s : Int) + 1 = ((s + 1 : Nat) : Int) := by omega
    have sZ := same_new (o := .lst (cutV (iv (W.g.getD (s + 1 + i) [])) (some ((s : Int) + 1)) none)) hZ
    have hcut : cutV (iv (W.g.getD (s + 1 + i) [])) (some ((s : Int) + 1)) none = iv ((W.g.getD (s + 1 + i) []).drop (s + 1)) := by
      rw [es, cut_drop (by rw [List.length_map, lr]; omega)]
      exact List.map_drop.symm
    have hZ2 : SqL K (upd H2 Z (.lst (cutV (iv (W.g.getD (s + 1 + i) [])) (some ((s : Int) + 1)) none))) Z (iv ((W.g.getD (s + 1 + i) []).drop (s + 1))) := sqL (by rw [upd_same, hcut])
    refine ⟨Z, rfl, ⟨_, hZ2⟩, fun D hD => ?_⟩
    refine lc_map walk_list hD (fun j v _ => ∃ u, ((W.g.getD (s + 1 + i) []).drop (s + 1))[j]? = some u ∧ v = .bl (u.fmod (ent W.g s s) != 0)) (fun _ _ _ _ _ z => z) (by rw [List.length_map, List.length_drop, lr]; omega) (fun _ s5 => s5.seq hZ2) ?_ ?_
    · rintro j x2 H6 H7 hj s6 hD6 ⟨rfl, ey⟩ N2 go2
      obtain ⟨u, hu, rfl⟩ := iv_get ey
      refine ⟨rfl, _, rfl, _, rfl, _, _, rfl, rfl, hp, rfl, go2 _ _ (Same.refl _) ⟨u, hu, ?_⟩⟩
      rw [dec_int]
      rfl
    · intro H6 bs s6 f1 f2 f3
      have eb : bs = (((W.g.getD (s + 1 + i) []).drop (s + 1)).map fun u => u.fmod (ent W.g s s) != 0).map V.bl := ext_of (by rw [f2]; simp) fun j y z hy hz => by
        obtain ⟨u, hu, rfl⟩ := f3 j y hy
        rw [List.getElem?_map, List.getElem?_map, hu] at hz
        exact Option.some.inj hz
      have sF := s1.trans (sZ.trans s6)
      refine ⟨D, _, rfl, sqL (by rw [f1, eb]), _, rfl, ?_⟩
      rw [List.any_map]
      cases q : ((W.g.getD (s + 1 + i) []).drop (s + 1)).any (id ∘ fun u => u.fmod (ent W.g s s) != 0) with
      | true =>
        obtain ⟨u, hu, hu2⟩ := List.any_eq_true.mp q
        obtain ⟨j, j1, j2, j3⟩ := drop_at.mpr hu
        refine ⟨_, rfl, ?_⟩
        have := fin (some (s + 1 + i)) _ sF ⟨by omega, him, j, by omega, by rw [← lr]; exact j2, fun d => ?_⟩
        · rw [show optV (some (s + 1 + i)) = V.int ((s : Int) + 1 + (i : Int)) from congrArg V.int ei.symm] at this
          exact this
        · have : u.fmod (ent W.g s s) = 0 := (fmod_zero hp).mpr (j3 ▸ d)
          rw [Function.comp, this] at hu2
          exact Bool.noConfusion hu2
      | false =>
        refine ⟨_, rfl, sF, fun a b h1 h2 h3 h4 => ?_⟩
        by_cases e : a = s + 1 + i
        · subst e
          have := List.any_eq_false.mp q _ (drop_at.mp ⟨b, by omega, by rw [lr]; exact h4, rfl⟩)
          refine (fmod_zero hp).mp ?_
          have key : ∀ z : Int, ¬ (id ∘ fun u : Int => u.fmod (ent W.g s s) != 0) z = true → z.fmod (ent W.g s s) = 0 := fun z h => by simpa using h
          exact key _ this
        · exact hd a b h1 (by omega) h3 h4
  · rintro σ H1 ⟨y4, rfl, s1, hd⟩
    exact fin none _ s1 fun a b h1 h2 h3 h4 => hd a b h1 (by omega) h3 h4
end
end K51W

set_option maxHeartbeats 200000
/-! Work.crossed_out, Work.settle. -/
namespace K51W
open PySem PySem.Spec PyProof.Rows L2 K51
section
variable {P : Program} {w : World} {K : PySem.W.Frag} {mg : Str → Option Value} {base : Heap} {C : Addr}
theorem WkOn.wr {H0 H : Hp} {x : Addr} {m w : Nat} {W : Wk} (h : WkOn K C H0 H x m w W) : WR m w W := by
  obtain ⟨dx, g, l, r, p, q, t, I⟩ := h
  exact I.wr
theorem WkOn.same {H0 H H' : Hp} {x : Addr} {m w : Nat} {W : Wk} (h : WkOn K C H0 H x m w W) (s : Same H H') : WkOn K C H0 H' x m w W := by
  obtain ⟨dx, g, l, r, p, q, t, I⟩ := h
  exact ⟨dx, g, l, r, p, q, t, I.same s⟩
theorem mul_near {e : Nat} (he : e ≤ 66900000) {a b y : Int} (ha : a.natAbs < 2 ^ e) (hb : b ≠ 0) (hy : y.natAbs < 2 ^ e) : Mul (near a b) y := by
  refine .inr (.inr ⟨e + 1, e, ?_, hy, by omega⟩)
  have := near_size a hb
  rw [Nat.pow_succ]
  have : 0 < 2 ^ e := Nat.two_pow_pos e
  omega
def spCr (K : PySem.W.Frag) (C : Addr) : Sp := fun vs H Q _ => ∃ (x : Addr) (s m w e : Nat) (H0 : Hp) (W : Wk), vs = [.ref x, .int (s : Int)] ∧ WkOn K C H0 H x m w W ∧ s < m ∧ s < w ∧ m ≤ 1000 ∧ w ≤ 1000 ∧ e ≤ 66900000 ∧ ent W.g s s ≠ 0 ∧
  (∀ t, s + t < m → BdW e (rowTo s W t)) ∧ (∀ t, s + t < w → BdW e (colTo s (ent W.g s s) (rowTo s W (m - 1 - s)) t)) ∧
  ∀ b H', WkOn K C H0 H' x m w (cross m w s W) → (b = true ↔ Crossed (cross m w s W).g m w s) → Q (.bl b) H'
theorem ok_crossed_out {f : Addr} {fd : FuncData} (F : Df K "crossed_out" "Work.crossed_out" s_Work_crossed_out f fd) (c : WCl K C) (T : Bn mg) (h_nearest : Fn P w K mg base 41 "nearest" ["one", "two"] spNear)
    (m_take_row : Md P w K mg base 42 C "take_row" ["self", "k", "by", "j"] (spTR K C)) (m_take_column : Md P w K mg base 42 C "take_column" ["self", "k", "by", "j"] (spTC K C)) :
    FnOk P w K mg base CX0 43 f fd ["self", "start"] (spCr K C) := by
  have c_Work := c.cls
  refine body_ok F sc_Work_crossed_out (fun vs H Q E h => by obtain ⟨x, s, m, w, e, H0, W, rfl, _⟩ := h; rfl) (fun cdv A outer s H vs Q E hr h => ?_)
  obtain ⟨x, s, m, n, e, H0, W, rfl, WK, hs, hs2, hm, hn, he, hp, hB1, hB2, fin⟩ := h
  refine ⟨_, (pss_cons (ps_set (i := 2) sc_Work_crossed_out.nd rfl (Or.inl rfl) (pe_ix (ixL (K := K) rfl) (pe_ix (ixL (K := K) rfl) (fldK (K := K) rfl (pv 0) rfl) (pv 1) (fun _ _ => rfl)) (pv 1) (fun _ _ => rfl)))
      (pss_cons (ps_for PassesOwn.never rfl (pi_range2 (by rfl) T.range (pa_cons (pe_op op_add (pv 1) pe_int) (pa_cons (fldK (K := K) rfl (pv 0) rfl) pa_nil))) (pg_name (i := 3) sc_Work_crossed_out.nd rfl (Or.inl rfl) (Or.inr rfl))
      (pss_one (ps_if (pt_cmpR op_ne (pe_ix (ixL (K := K) rfl) (pe_ix (ixL (K := K) rfl) (fldK (K := K) rfl (pv 0) rfl) (pv 3) (fun _ _ => rfl)) (pv 1) (fun _ _ => rfl)) pe_int (nomark _)) (pss_one (ps_expr (pe_md m_take_row c_Work (hr.mono (by decide)) (pv 0) (pa_cons (pv 3) (pa_cons (pe_fn h_nearest (hr.mono (by decide)) (by rfl) (pa_cons (pe_ix (ixL (K := K) rfl) (pe_ix (ixL (K := K) rfl) (fldK (K := K) rfl (pv 0) rfl) (pv 3) (fun _ _ => rfl)) (pv 1) (fun _ _ => rfl)) (pa_cons (pv 2) pa_nil))) (pa_cons (pv 1) pa_nil)))))) pss_nil)))
      (pss_cons (ps_for PassesOwn.never rfl (pi_range2 (by rfl) T.range (pa_cons (pe_op op_add (pv 1) pe_int) (pa_cons (fldK (K := K) rfl (pv 0) rfl) pa_nil))) (pg_name (i := 4) sc_Work_crossed_out.nd rfl (Or.inl rfl) (Or.inr rfl))
      (pss_one (ps_if (pt_cmpR op_ne (pe_ix (ixL (K := K) rfl) (pe_ix (ixL (K := K) rfl) (fldK (K := K) rfl (pv 0) rfl) (pv 1) (fun _ _ => rfl)) (pv 4) (fun _ _ => rfl)) pe_int (nomark _)) (pss_one (ps_expr (pe_md m_take_column c_Work (hr.mono (by decide)) (pv 0) (pa_cons (pv 4) (pa_cons (pe_fn h_nearest (hr.mono (by decide)) (by rfl) (pa_cons (pe_ix (ixL (K := K) rfl) (pe_ix (ixL (K := K) rfl) (fldK (K := K) rfl (pv 0) rfl) (pv 1) (fun _ _ => rfl)) (pv 4) (fun _ _ => rfl)) (pa_cons (pv 2) pa_nil))) (pa_cons (pv 1) pa_nil)))))) pss_nil)))
      (pss_cons (ps_setLc (i := 5) (own := [("k", 3)]) (by rfl) sc_Work_crossed_out.nd rfl rfl (sw_true rfl rfl rfl (by decide +kernel)) (pi_range2 (by rfl) T.range (pa_cons (pe_op op_add (pv 1) pe_int) (pa_cons (fldK (K := K) rfl (pv 0) rfl) pa_nil))) (blkOk_by (N := ["self", "start", "pivot", "k", "j", "column", "item"]) (sc := defScope s_Work_crossed_out) (own := [("k", 3)]) (by decide +kernel)) (fun _ _ _ _ _ => (pg_name (i := 3) sc_Work_crossed_out.nd rfl (Or.inl rfl) (Or.inr rfl))) (fun _ _ _ _ _ => pts_nil) (fun _ _ _ _ _ => (pe_ix (ixL (K := K) rfl) (pe_ix (ixL (K := K) rfl) (fldK (K := K) rfl (pv 0) rfl) (pv 3) (fun _ _ => rfl)) (pv 1) (fun _ _ => rfl))))
      (pss_one (ps_ret (pe_not (pe_callB (anyK (K := K) rfl rfl) (by rfl) T.any (by decide +kernel) (pa_cons (pe_lc (own := [("item", 6)]) (by rfl) sc_Work_crossed_out.nd (piL (K := K) rfl (pe_op op_cat (pv 5) (pe_slice (slL (K := K) rfl) (pe_ix (ixL (K := K) rfl) (fldK (K := K) rfl (pv 0) rfl) (pv 1) (fun _ _ => rfl)) (po_some (pe_op op_add (pv 1) pe_int)) po_none))) (blkOk_by (N := ["self", "start", "pivot", "k", "j", "column", "item"]) (sc := defScope s_Work_crossed_out) (own := [("item", 6)]) (by decide +kernel)) (fun _ _ _ _ _ => (pg_name (i := 6) sc_Work_crossed_out.nd rfl (Or.inl rfl) (Or.inr rfl))) (fun _ _ _ _ _ => pts_nil) (fun _ _ _ _ _ => (pe_cmpR op_ne (pv 6) pe_int (nomark _)))) pa_nil))))))))), ?_⟩
  obtain ⟨dx, g, l, r, p, q, t, I⟩ := id WK
  have es : (s : Int) + 1 = ((s + 1 : Nat) : Int) := by omega
  refine ⟨_, rfl, x, C, dx, _, _, rfl, I.hx, c.cls, c.grid, rfl, _, rfl, g, _, _, _, rfl, rfl, sqL I.hg, at_of rfl (refs_at hs), _, rfl, p s, _, _, _, rfl, rfl, sqL (I.row s hs), at_of rfl (iv_at I.wr.g hs hs2), ?_⟩
  refine ⟨_, rfl, _, _, rfl, rfl, _, rfl, x, C, dx, _, _, rfl, I.hx, c.cls, c.many, rfl, _, _, rfl, by omega, ?_⟩
  -- rows
  refine for_it walk_range (fun i σ H' => ∃ y3, σ = [some (.ref x), some (.int (s : Int)), some (.int (ent W.g s s)), y3, none, none, none] ∧ WkOn K C H0 H' x m n (rowTo s W i)) ⟨none, rfl, WK⟩ (fun _ _ _ _ _ => trivial) ?_ ?_
  · rintro i xv σ H1 H2 hi ⟨y3, rfl, WK1⟩ ⟨rfl, rfl⟩
    obtain ⟨dx, g, l, r, p, q, t, I1⟩ := id WK1
    have him : s + 1 + i < m := by omega
    have ei : (s : Int) + 1 + (i : Int) = ((s + 1 + i : Nat) : Int) := by omega
    have cell := iv_at I1.wr.g him hs2
    have eR : rowTo s W (i + 1) = if ent (rowTo s W i).g (s + 1 + i) s ≠ 0 then ⟨tk (rowTo s W i).g (s + 1 + i) (near (ent (rowTo s W i).g (s + 1 + i) s) (ent W.g s s)) s, tk (rowTo s W i).l (s + 1 + i) (near (ent (rowTo s W i).g (s + 1 + i) s) (ent W.g s s)) s, (rowTo s W i).r⟩ else rowTo s W i := rfl
    have hB := hB1 i (by omega)
    refine ⟨_, rfl, x, C, dx, _, _, rfl, I1.hx, c.cls, c.grid, rfl, _, rfl, g, _, _, _, rfl, rfl, sqL I1.hg, at_of ei (refs_at him), _, rfl, p (s + 1 + i), _, _, _, rfl, rfl, sqL (I1.row _ him), at_of rfl cell, rfl, _, rfl, ?_⟩
    by_cases e0 : ent (rowTo s W i).g (s + 1 + i) s = 0
    · rw [decide_eq_true (congrArg V.int e0)]
      refine ⟨_, rfl, ?_⟩
      rw [eR, if_neg (fun h => h e0)]
      exact WK1
    · rw [decide_eq_false (fun h => e0 (V.int.inj h))]
      refine ⟨_, rfl, x, dx, _, rfl, I1.hx, rfl, _, rfl, ?_⟩
      refine ⟨_, rfl, x, C, dx, _, _, rfl, I1.hx, c.cls, c.grid, rfl, _, rfl, g, _, _, _, rfl, rfl, sqL I1.hg, at_of ei (refs_at him), _, rfl, p (s + 1 + i), _, _, _, rfl, rfl, sqL (I1.row _ him), at_of rfl cell, ?_⟩
      refine ⟨_, rfl, _, _, rfl, hp, _, rfl, ?_⟩
      refine ⟨x, s + 1 + i, s, m, n, near (ent (rowTo s W i).g (s + 1 + i) s) (ent W.g s s), H0, rowTo s W i, ?_, WK1, him, hs, hm, hn, ?_, ?_, fun H' h' => ⟨_, rfl, ?_⟩⟩
      · rw [← ei]; rfl
      · exact fun y hy => by obtain ⟨j, rfl⟩ := mem_ent hy; exact mul_near he (hB.1 _ _) hp (hB.1 _ _)
      · exact fun y hy => by obtain ⟨j, rfl⟩ := mem_ent hy; exact mul_near he (hB.1 _ _) hp (hB.2.1 _ _)
      · rw [eR, if_pos e0]
        exact h'
  · rintro σ H1 ⟨y3, rfl, WK1⟩
    have en : ((m : Int) - ((s : Int) + 1)).toNat = m - 1 - s := by omega
    rw [en] at WK1
    obtain ⟨dx, g, l, r, p, q, t, I1⟩ := id WK1
    refine ⟨_, rfl, _, _, rfl, rfl, _, rfl, x, C, dx, _, _, rfl, I1.hx, c.cls, c.wide, rfl, _, _, rfl, by omega, ?_⟩
    refine for_it walk_range (fun i σ H' => ∃ y4, σ = [some (.ref x), some (.int (s : Int)), some (.int (ent W.g s s)), y3, y4, none, none] ∧ WkOn K C H0 H' x m n (colTo s (ent W.g s s) (rowTo s W (m - 1 - s)) i)) ⟨none, rfl, WK1⟩ (fun _ _ _ _ _ => trivial) ?_ ?_
    · rintro i xv σ H2 H3 hi ⟨y4, rfl, WK2⟩ ⟨rfl, rfl⟩
      have hB := hB2 i (by omega)
      have eR : colTo s (ent W.g s s) (rowTo s W (m - 1 - s)) (i + 1) = if ent (colTo s (ent W.g s s) (rowTo s W (m - 1 - s)) i).g s (s + 1 + i) ≠ 0 then ⟨tkc (colTo s (ent W.g s s) (rowTo s W (m - 1 - s)) i).g (s + 1 + i) (near (ent (colTo s (ent W.g s s) (rowTo s W (m - 1 - s)) i).g s (s + 1 + i)) (ent W.g s s)) s, (colTo s (ent W.g s s) (rowTo s W (m - 1 - s)) i).l, tk (colTo s (ent W.g s s) (rowTo s W (m - 1 - s)) i).r (s + 1 + i) (near (ent (colTo s (ent W.g s s) (rowTo s W (m - 1 - s)) i).g s (s + 1 + i)) (ent W.g s s)) s⟩ else colTo s (ent W.g s s) (rowTo s W (m - 1 - s)) i := rfl
      rw [eR]
      clear eR
      revert hB WK2
      generalize colTo s (ent W.g s s) (rowTo s W (m - 1 - s)) i = V2
      intro WK2 hB
      obtain ⟨dx, g, l, r, p, q, t, I2⟩ := id WK2
      have hin : s + 1 + i < n := by omega
      have ei : (s : Int) + 1 + (i : Int) = ((s + 1 + i : Nat) : Int) := by omega
      have cell := iv_at I2.wr.g hs hin
      refine ⟨_, rfl, x, C, dx, _, _, rfl, I2.hx, c.cls, c.grid, rfl, _, rfl, g, _, _, _, rfl, rfl, sqL I2.hg, at_of rfl (refs_at hs), _, rfl, p s, _, _, _, rfl, rfl, sqL (I2.row _ hs), at_of ei cell, rfl, _, rfl, ?_⟩
      by_cases e0 : ent V2.g s (s + 1 + i) = 0
      · rw [decide_eq_true (congrArg V.int e0)]
        refine ⟨_, rfl, ?_⟩
        rw [if_neg (fun h => h e0)]
        exact WK2
      · rw [decide_eq_false (fun h => e0 (V.int.inj h))]
        refine ⟨_, rfl, x, dx, _, rfl, I2.hx, rfl, _, rfl, ?_⟩
        refine ⟨_, rfl, x, C, dx, _, _, rfl, I2.hx, c.cls, c.grid, rfl, _, rfl, g, _, _, _, rfl, rfl, sqL I2.hg, at_of rfl (refs_at hs), _, rfl, p s, _, _, _, rfl, rfl, sqL (I2.row _ hs), at_of ei cell, ?_⟩
        refine ⟨_, rfl, _, _, rfl, hp, _, rfl, ?_⟩
        refine ⟨x, s + 1 + i, s, m, n, near (ent V2.g s (s + 1 + i)) (ent W.g s s), H0, V2, ?_, WK2, hin, hs2, hm, hn, ?_, ?_, fun H' h' => ⟨_, rfl, ?_⟩⟩
        · rw [← ei]; rfl
        · exact fun y => mul_near he (hB.1 _ _) hp (hB.1 _ _)
        · exact fun y hy => by obtain ⟨j, rfl⟩ := mem_ent hy; exact mul_near he (hB.1 _ _) hp (hB.2.2 _ _)
        · rw [if_pos e0]
          exact h'
    · rintro σ H2 ⟨y4, rfl, WK2⟩
      have en : ((n : Int) - ((s : Int) + 1)).toNat = n - 1 - s := by omega
      rw [en, show colTo s (ent W.g s s) (rowTo s W (m - 1 - s)) (n - 1 - s) = cross m n s W from rfl] at WK2
      revert fin WK2
      generalize cross m n s W = V2
      intro fin WK2
      obtain ⟨dx, g, l, r, p, q, t, I2⟩ := id WK2
      -- column
      refine ⟨_, rfl, _, _, rfl, rfl, _, rfl, x, C, dx, _, _, rfl, I2.hx, c.cls, c.many, rfl, _, _, rfl, by omega, fun D hD => ?_⟩
      refine lc_map walk_range hD (fun i v _ => s + 1 + i < m ∧ v = .int (ent V2.g (s + 1 + i) s)) (fun _ _ _ _ _ z => z) (by omega) (fun _ _ => trivial) ?_ ?_
      · rintro i xv H3 H4 hi s3 hD3 ⟨rfl, rfl⟩ N go
        have I3 := I2.same s3
        have him : s + 1 + i < m := by omega
        have ei : (s : Int) + 1 + (i : Int) = ((s + 1 + i : Nat) : Int) := by omega
        exact ⟨rfl, _, rfl, x, C, dx, _, _, rfl, I3.hx, c.cls, c.grid, rfl, _, rfl, g, _, _, _, rfl, rfl, sqL I3.hg, at_of ei (refs_at him), _, rfl, p (s + 1 + i), _, _, _, rfl, rfl, sqL (I3.row _ him), at_of rfl (iv_at I3.wr.g him hs2), go _ _ (Same.refl _) ⟨him, rfl⟩⟩
      · intro H3 ys s3 f1 f2 f3
        have I3 := I2.same s3
        have es2 : (s : Int) + 1 = ((s + 1 : Nat) : Int) := by omega
        have lr : (V2.g.getD s []).length = n := I3.wr.g.row hs
        have hcut : cutV (iv (V2.g.getD s [])) (some ((s : Int) + 1)) none = iv ((V2.g.getD s []).drop (s + 1)) := by
          rw [es2, cut_drop (by rw [List.length_map, lr]; omega)]
          exact List.map_drop.symm
        have ey : ys = ((List.range (m - (s + 1))).map fun i => ent V2.g (s + 1 + i) s).map V.int := ext_of (by rw [f2]; simp; omega) fun j y z hy hz => by
          obtain ⟨_, rfl⟩ := f3 j y hy
          rw [List.getElem?_map, List.getElem?_map] at hz
          have hj : j < m - (s + 1) := by
            have := (List.getElem?_eq_some_iff.mp hy).1
            omega
          rw [List.getElem?_range hj] at hz
          exact Option.some.inj hz
        refine ⟨_, rfl, _, rfl, x, C, dx, _, _, rfl, I3.hx, c.cls, c.grid, rfl, _, rfl, g, _, _, _, rfl, rfl, sqL I3.hg, at_of rfl (refs_at hs), _, rfl, _, _, rfl, rfl, _, rfl, p s, _, rfl, sqL (I3.row s hs), fun Z hZ => ?_⟩
        have sZ := same_new (o := .lst (cutV (iv (V2.g.getD s [])) (some ((s : Int) + 1)) none)) hZ
        refine ⟨D, Z, _, _, rfl, rfl, sZ _ _ f1, by rw [upd_same, hcut], ?_, fun E1 hE1 => ?_⟩
        · rw [f2, List.length_map, List.length_drop, lr]
          exact Nat.le_trans (by omega : _ ≤ 2000) (by decide)
        rw [ey, ← List.map_append] 
        generalize hU : (List.range (m - (s + 1))).map (fun i => ent V2.g (s + 1 + i) s) ++ (V2.g.getD s []).drop (s + 1) = U
        have lU : U.length ≤ 2000 := by
          rw [← hU, List.length_append, List.length_map, List.length_range, List.length_drop, lr]; omega
        have sE := same_new (o := .lst (iv U)) hE1
        refine ⟨E1, rfl, ⟨_, sqL upd_same⟩, fun D2 hD2 => ?_⟩
        refine lc_map walk_list hD2 (fun j v _ => ∃ u, U[j]? = some u ∧ v = .bl (u != 0)) (fun _ _ _ _ _ z => z) (by rw [List.length_map]; omega) (fun _ s5 => s5.seq (sqL upd_same)) ?_ ?_
        · rintro j x2 H6 H7 hj s6 hD6 ⟨rfl, ey⟩ N2 go2
          obtain ⟨u, hu, rfl⟩ := iv_get ey
          refine ⟨rfl, _, rfl, rfl, go2 _ _ (Same.refl _) ⟨u, hu, ?_⟩⟩
          rw [dec_int]
          rfl
        · intro H6 bs s6 g1 g2 g3
          have eb : bs = (U.map fun u => u != 0).map V.bl := ext_of (by rw [g2]; simp) fun j y z hy hz => by
            obtain ⟨u, hu, rfl⟩ := g3 j y hy
            rw [List.getElem?_map, List.getElem?_map, hu] at hz
            exact Option.some.inj hz
          refine ⟨D2, _, rfl, sqL (by rw [g1, eb]), ?_⟩
          refine ⟨_, rfl, fin _ _ (WkOn.same WK2 (s3.trans (sZ.trans (sE.trans s6)))) ?_⟩
          have ea : ∀ u ∈ U, u = 0 ↔ ¬ (u != 0) = true := fun u _ => by simp
          rw [List.any_map]
          have hn : (!U.any (id ∘ fun u => u != 0)) = true ↔ ∀ u ∈ U, u = 0 := by
            rw [Bool.not_eq_true', List.any_eq_false]
            exact ⟨fun h u hu => (ea u hu).mpr (h u hu), fun h u hu => (ea u hu).mp (h u hu)⟩
          rw [hn, ← hU]
          constructor
          · intro h
            refine ⟨fun i h1 h2 => h _ (List.mem_append_left _ (List.mem_map.mpr ⟨i - (s + 1), List.mem_range.mpr (by omega), ?_⟩)), fun j h1 h2 => h _ (List.mem_append_right _ (drop_at.mp ⟨j, by omega, by rw [lr]; exact h2, rfl⟩))⟩
            show ent V2.g (s + 1 + (i - (s + 1))) s = _
            rw [show s + 1 + (i - (s + 1)) = i by omega]
          · rintro ⟨h1, h2⟩ u hu
            rcases List.mem_append.mp hu with hu | hu
            · obtain ⟨i, hi, rfl⟩ := List.mem_map.mp hu
              have := List.mem_range.mp hi
              exact h1 _ (by omega) (by omega)
            · obtain ⟨j, j1, j2, rfl⟩ := drop_at.mpr hu
              exact h2 j (by omega) (by rw [← lr]; exact j2)
end
end K51W

set_option maxHeartbeats 200000
/-! Work.settle. -/
namespace K51W
open PySem PySem.Spec PyProof.Rows L2 K51
section
variable {P : Program} {w : World} {K : PySem.W.Frag} {mg : Str → Option Value} {base : Heap} {C : Addr}
def spSe (K : PySem.W.Frag) (C : Addr) : Sp := fun vs H Q _ => ∃ (x : Addr) (s m w e n : Nat) (H0 : Hp) (W : Wk) (Post : Wk → Prop), vs = [.ref x, .int (s : Int)] ∧ WkOn K C H0 H x m w W ∧ s < m ∧ s < w ∧ m ≤ 1000 ∧ w ≤ 1000 ∧ e ≤ 66900000 ∧ SOk e m w s n W Post ∧
  ∀ W' H', WkOn K C H0 H' x m w W' → Post W' → Q (.bl true) H'
theorem ok_settle {f : Addr} {fd : FuncData} (F : Df K "settle" "Work.settle" s_Work_settle f fd) (c : WCl K C) (T : Bn mg)
    (m_take_row : Md P w K mg base 42 C "take_row" ["self", "k", "by", "j"] (spTR K C)) (m_swap : Md P w K mg base 41 C "swap" ["self", "k", "j", "start"] (spSw K C))
    (m_smallest : Md P w K mg base 41 C "smallest" ["self", "start"] (spSmall K C)) (m_crossed_out : Md P w K mg base 43 C "crossed_out" ["self", "start"] (spCr K C)) (m_uneven : Md P w K mg base 41 C "uneven" ["self", "start"] (spUn K C)) :
    FnOk P w K mg base CX0 44 f fd ["self", "start"] (spSe K C) := by
  have c_Work := c.cls
  refine body_ok F sc_Work_settle (fun vs H Q E h => by obtain ⟨x, s, m, w, e, n, H0, W, Post, rfl, _⟩ := h; rfl) (fun cdv A outer s H vs Q E hr h => ?_)
  obtain ⟨x, s, m, n, e, fu, H0, W, Post, rfl, WK, hs, hs2, hm, hn, he, hk, fin⟩ := h
  refine ⟨_, (pss_one (ps_while PassesOwn.never (pt_val pe_bl) (pss_cons (ps_set (i := 2) sc_Work_settle.nd rfl (Or.inl rfl) (pe_md m_smallest c_Work (hr.mono (by decide)) (pv 0) (pa_cons (pv 1) pa_nil)))
      (pss_cons (ps_if (pt_cmp (pc_isN (pv 2))) (pss_one (ps_ret pe_bl)) pss_nil)
      (pss_cons (ps_expr (pe_md m_swap c_Work (hr.mono (by decide)) (pv 0) (pa_cons (pe_ix (ixT (K := K) rfl) (pv 2) pe_int (fun _ _ => rfl)) (pa_cons (pe_ix (ixT (K := K) rfl) (pv 2) pe_int (fun _ _ => rfl)) (pa_cons (pv 1) pa_nil)))))
      (pss_one (ps_if (pt_val (pe_md m_crossed_out c_Work (hr.mono (by decide)) (pv 0) (pa_cons (pv 1) pa_nil))) (pss_cons (ps_set (i := 3) sc_Work_settle.nd rfl (Or.inl rfl) (pe_md m_uneven c_Work (hr.mono (by decide)) (pv 0) (pa_cons (pv 1) pa_nil)))
      (pss_cons (ps_if (pt_cmp (pc_isN (pv 3))) (pss_one (ps_ret pe_bl)) pss_nil)
      (pss_one (ps_expr (pe_md m_take_row c_Work (hr.mono (by decide)) (pv 0) (pa_cons (pv 1) (pa_cons (pe_un un_neg pe_int) (pa_cons (pv 3) pa_nil)))))))) pss_nil))))))), ?_⟩
  refine ⟨fun k σ H' => ∃ W y1 y2, σ = [some (.ref x), some (.int (s : Int)), y1, y2] ∧ WkOn K C H0 H' x m n W ∧ SOk e m n s k W Post, ⟨fu, W, none, none, rfl, WK, hk⟩, ?_⟩
  rintro k σ H1 ⟨W, y1, y2, rfl, WK, hk⟩
  refine ⟨_, rfl, fun σ' H'' => ∃ k', k' < k ∧ ∃ W y1 y2, σ' = [some (.ref x), some (.int (s : Int)), y1, y2] ∧ WkOn K C H0 H'' x m n W ∧ SOk e m n s k' W Post, fun _ _ z => z, ?_⟩
  obtain ⟨dx, g, l, r, p, q, t, I⟩ := id WK
  refine ⟨_, rfl, x, dx, _, rfl, I.hx, rfl, _, rfl, ?_⟩
  refine ⟨x, s, m, n, H0, W, rfl, WK, by omega, by omega, hm, hn, fun best v H2 s2 hb ho => ?_⟩
  cases k with
  | zero => exact hk.elim
  | succ k =>
  cases best with
  | none => exact absurd hb hk.1
  | some b =>
    obtain ⟨a, j⟩ := b
    obtain ⟨hp, hB1, hB2, hT, hN⟩ := hk.2 a j hb
    obtain ⟨T0, rfl, hT0⟩ := ho
    have WK2 := WkOn.same WK s2
    have I2 := I.same s2
    obtain ⟨⟨b1, b2, b3, b4⟩, -⟩ := hb
    refine ⟨_, rfl, _, rfl, ?_⟩
    have hxk := WK2
    obtain ⟨dx, g, l, r, p, q, t, I2⟩ := id WK2
    refine ⟨_, rfl, x, dx, _, rfl, I2.hx, rfl, _, rfl, T0, _, _, _, rfl, rfl, sqT hT0, at_of (j := 1) rfl rfl, _, rfl, T0, _, _, _, rfl, rfl, sqT hT0, at_of (j := 2) rfl rfl, _, rfl, ?_⟩
    refine ⟨x, a, j, s, m, n, H0, W, rfl, WK2, b2, b4, hs, hs2, hm, hn, fun H3 WK3 => ⟨_, rfl, ?_⟩⟩
    revert hp hB1 hB2 hT hN WK3
    generalize swapW W s a j = V1
    intro hp hB1 hB2 hT hN WK3
    obtain ⟨dx, g, l, r, p, q, t, I3⟩ := id WK3
    refine ⟨x, dx, _, rfl, I3.hx, rfl, _, rfl, ?_⟩
    refine ⟨x, s, m, n, e, H0, V1, rfl, WK3, hs, hs2, hm, hn, he, hp, hB1, hB2, fun b H4 WK4 hb4 => ?_⟩
    have hp4 : ent (cross m n s V1).g s s ≠ 0 := by
      have R3 := I3.wr
      have h1 := rowTo_wr R3 hs (m - 1 - s) (by omega)
      have e1 := rowTo_g R3 hs hp (m - 1 - s) (by omega) s s
      rw [if_neg (by omega)] at e1
      unfold cross
      rw [colTo_g h1 hs hs2 hp (n - 1 - s) (by omega) s s hs, if_neg (by omega), e1]
      exact hp
    revert hT hN WK4 hb4 hp4
    generalize cross m n s V1 = V2
    intro hT hN WK4 hb4 hp4
    cases b with
    | false =>
      exact ⟨_, rfl, k, Nat.lt_succ_self k, V2, _, _, rfl, WK4, hN fun c => nomatch hb4.mpr c⟩
    | true =>
      obtain ⟨hU, hT⟩ := hT (hb4.mp rfl)
      refine ⟨_, rfl, ?_⟩
      obtain ⟨dx, g, l, r, p, q, t, I4⟩ := id WK4
      refine ⟨_, rfl, x, dx, _, rfl, I4.hx, rfl, _, rfl, ?_⟩
      refine ⟨x, s, m, n, H0, V2, rfl, WK4, hs, hs2, hm, hn, hp4, fun o H5 s5 ho => ?_⟩
      have WK5 := WkOn.same WK4 s5
      cases o with
      | none => exact ⟨_, rfl, _, rfl, fin _ _ WK5 (hU ho)⟩
      | some k' =>
        obtain ⟨k1, k2, k3⟩ := id ho
        refine ⟨_, rfl, _, rfl, ?_⟩
        obtain ⟨dx, g, l, r, p, q, t, I5⟩ := id WK5
        refine ⟨_, rfl, x, dx, _, rfl, I5.hx, rfl, _, rfl, _, rfl, _, rfl, ?_⟩
        refine ⟨x, s, k', m, n, -1, H0, V2, rfl, WK5, hs, k2, hm, hn, fun y _ => .inl (by decide), fun y _ => .inl (by decide), fun H6 WK6 => ?_⟩
        exact ⟨k, Nat.lt_succ_self k, _, _, _, rfl, WK6, hT k' ho⟩
end
end K51W

set_option maxHeartbeats 200000
/-! Work.__init__, smith_of. -/
namespace K51W
open PySem PySem.Spec PyProof.Rows L2 K51
section
variable {J : It} {n : Nat} {Gd : Hp → Prop} {Y : Nat → Hp → V → Hp → Prop} {g : TG} {te : TE} {vs : List Nat} {σ : Sto} {H1 : Hp} {D : Addr} {Qd : Hp → Prop}
theorem refs_succ {n : Nat} {pf : Nat → Addr} {p : Addr} : refs n pf ++ [.ref p] = refs (n + 1) fun i => if i = n then p else pf i := by
  unfold refs
  rw [List.range_succ, List.map_append]
  have : (List.range n).map (fun i => V.ref (pf i)) = (List.range n).map fun i => V.ref (if i = n then p else pf i) := List.map_congr_left fun i hi => by
    have := List.mem_range.mp hi
    rw [if_neg (by omega)]
  rw [this]
  simp
/-- a new object a turn, all of them different -/
theorem lc_new (w : Walk J n Gd Y) (hD : H1 D = none) (R : Nat → Addr → Hp → Prop) (mono : ∀ i v H H', Same H H' → R i v H → R i v H') (hn : n ≤ 100000) (hG : ∀ H, Same H1 H → Gd H)
    (hs : ∀ i x H H', i < n → Same H1 H → H D ≠ none → Y i H x H' → ∀ (N : V → Hp → Prop), (∀ p H4, Same H H4 → H p = none → H4 p ≠ none → R i p (wo H4 D) → N (.ref p) H4) →
      g x (wipe σ vs) H' fun σ2 H2 => wipe σ2 vs = wipe σ vs ∧ te σ2 H2 N)
    (hd : ∀ (H : Hp) (pf : Nat → Addr), Same H1 H → H D = some (.lst (refs n pf)) → (∀ i, i < n → R i (pf i) (wo H D) ∧ pf i ≠ D) → (∀ i j, i < n → j < n → pf i = pf j → i = j) → Qd H) :
    ∃ W : Nat → Nat → Hp → Prop, (∃ m, W 0 m (upd H1 D (.lst []))) ∧ ∀ i m H, W i m H →
      (J.stop i H ∧ Qd H) ∨ (J.go i H ∧ ∃ Nx : Hp → Prop, (∀ H', Nx H' → ∃ m', m' < m ∧ W (i + 1) m' H') ∧ ∀ x H', J.yld i H x H' → g x (wipe σ vs) H' fun σ2 H2 => wipe σ2 vs = wipe σ vs ∧ tYes σ2 H2 fun b H3 =>
        if b = true then te σ2 H3 fun y H4 => ∃ acc, H4 D = some (.lst acc) ∧ acc.length < sizeLine ∧ Nx (upd H4 D (.lst (acc ++ [y]))) else Nx H3) := by
  refine lc_it w (fun i H => ∃ pf, Same H1 H ∧ H D = some (.lst (refs i pf)) ∧ (∀ j, j < i → R j (pf j) (wo H D) ∧ pf j ≠ D ∧ H (pf j) ≠ none) ∧ ∀ a b, a < i → b < i → pf a = pf b → a = b) ⟨fun _ => 0, same_new hD, upd_same, fun j h => by omega, fun a b h => by omega⟩
    (fun i H _ ⟨ys, s1, _⟩ => hG H s1) (fun i x H H' hi ⟨pf, s1, h1, h2, h3⟩ hy => ?_) (fun H ⟨pf, s1, h1, h2, h3⟩ => hd H pf s1 h1 (fun i hi => ⟨(h2 i hi).1, (h2 i hi).2.1⟩) h3)
  have key := hs i x H H' hi s1 (by rw [h1]; exact fun z => nomatch z) hy (fun y H4 => ∃ acc, H4 D = some (.lst acc) ∧ acc.length < sizeLine ∧ ∃ pf, Same H1 (upd H4 D (.lst (acc ++ [y]))) ∧ (upd H4 D (.lst (acc ++ [y]))) D = some (.lst (refs (i + 1) pf)) ∧ (∀ j, j < i + 1 → R j (pf j) (wo (upd H4 D (.lst (acc ++ [y]))) D) ∧ pf j ≠ D ∧ upd H4 D (.lst (acc ++ [y])) (pf j) ≠ none) ∧ ∀ a b, a < i + 1 → b < i + 1 → pf a = pf b → a = b) fun p H4 s4 np np4 r => ?_
  · unfold tYes
    simp only [if_true]
    exact key
  have pD : p ≠ D := fun z => by rw [z, h1] at np; cases np
  refine ⟨refs i pf, s4 _ _ h1, Nat.lt_of_lt_of_le (by rw [refs_len]; omega : _ < 100000) (by decide), fun j => if j = i then p else pf j, same_mut (s1.trans s4) hD, by rw [upd_same, refs_succ], fun j hj => ?_, fun a b ha hb e => ?_⟩
  · rw [wo_upd]
    by_cases e : j = i
    · simp only [if_pos e]
      exact ⟨e ▸ r, pD, by rw [upd_ne pD]; exact np4⟩
    · simp only [if_neg e]
      obtain ⟨g1, g2, g3⟩ := h2 j (by omega)
      refine ⟨mono _ _ _ _ (wo_same s4) g1, g2, ?_⟩
      rw [upd_ne g2]
      obtain ⟨o, ho⟩ := Option.ne_none_iff_exists'.mp g3
      rw [s4 _ _ ho]
      exact fun z => nomatch z
  · by_cases e1 : a = i
    · by_cases e2 : b = i
      · omega
      · simp only [if_pos e1, if_neg e2] at e
        exact absurd (e ▸ np) (h2 b (by omega)).2.2
    · by_cases e2 : b = i
      · simp only [if_neg e1, if_pos e2] at e
        exact absurd (e ▸ np) (h2 a (by omega)).2.2
      · simp only [if_neg e1, if_neg e2] at e
        exact h3 a b (by omega) (by omega) e
end
section
variable {K : PySem.W.Frag}
/-- rows of integers, in lists or tuples -/
def RowsS (K : PySem.W.Frag) (H : Hp) (v : V) (M : Mat) : Prop := ∃ a xs, v = .ref a ∧ (SqL K H a xs ∨ SqT K H a xs) ∧ xs.length = M.length ∧
  ∀ (i : Nat) (r : List Int), M[i]? = some r → ∃ p, xs[i]? = some (.ref p) ∧ (SqL K H p (iv r) ∨ SqT K H p (iv r))
theorem SqS.same {H H' : Hp} {p : Addr} {xs : List V} (s : Same H H') (h : SqL K H p xs ∨ SqT K H p xs) : SqL K H' p xs ∨ SqT K H' p xs := h.imp (fun q => s.seq q) fun q => Same.seqT s q
theorem RowsS.list {H : Hp} {v : V} {M : Mat} (h : Dp K H v (dM M)) : RowsS K H v M := by
  obtain ⟨a, xs, e, q, l, r⟩ := get_rows h
  refine ⟨a, xs, e, .inl q, l, fun i r' hr => ?_⟩
  obtain ⟨p, h1, h2⟩ := r i r' hr
  exact ⟨p, h1, .inl h2⟩
theorem RowsS.tup {H : Hp} {v : V} {M : Mat} (h : Dp K H v (dT M)) : RowsS K H v M := by
  obtain ⟨a, xs, e, q, d⟩ := Dp.tupI h
  refine ⟨a, xs, e, .inr q, by rw [DpAll.len d, List.length_map], fun i r hr => ?_⟩
  obtain ⟨v, h1, h2⟩ := DpAll.get (i := i) (d := dTI r) d (by rw [List.getElem?_map, hr]; rfl)
  obtain ⟨p, ys, rfl, q2, d2⟩ := Dp.tupI h2
  rw [DpAll.ints_inv d2] at q2
  exact ⟨p, h1, .inr q2⟩
theorem ixR {H : Hp} {a : Addr} {xs : List V} {i : Int} {v : V} {Q : VK} (h : SqL K H a xs ∨ SqT K H a xs) (e : atI xs i = some v) (q : Q v H) : rIx K (.ref a) (.int i) H Q := by
  rcases h with h | h
  · exact .inl ⟨a, xs, i, v, rfl, rfl, h, e, q⟩
  · exact .inr (.inl ⟨a, xs, i, v, rfl, rfl, h, e, q⟩)
end
theorem NewM.refs {H H' : Hp} {a : Addr} {M : Mat} (h : NewM H H' a M) : ∃ q : Nat → Addr, H' a = some (.lst (refs M.length q)) ∧ ∀ i, i < M.length → q i ≠ a ∧ H (q i) = none ∧ H' (q i) = some (.lst (iv (M.getD i []))) := by
  obtain ⟨h0, xs, h1, h2, h3⟩ := h
  have key : ∀ i, ∃ p, i < M.length → xs[i]? = some (.ref p) ∧ p ≠ a ∧ H p = none ∧ H' p = some (.lst (iv (M.getD i []))) := fun i => by
    by_cases hi : i < M.length
    · obtain ⟨p, e⟩ := h3 i _ (getD_at hi)
      exact ⟨p, fun _ => e⟩
    · exact ⟨0, fun z => absurd z hi⟩
  refine ⟨fun i => (key i).choose, ?_, fun i hi => ((key i).choose_spec hi).2⟩
  rw [h1]
  refine congrArg (fun z => some (HO.lst z)) (ext_of (by rw [h2, refs_len]) fun i y z hy hz => ?_)
  have hi : i < M.length := by have := (List.getElem?_eq_some_iff.mp hy).1; omega
  rw [((key i).choose_spec hi).1] at hy
  rw [refs_at hi] at hz
  exact Option.some.inj (hy.symm.trans hz)
section
variable {P : Program} {w : World} {K : PySem.W.Frag} {mg : Str → Option Value} {base : Heap} {C : Addr}
def spWI (K : PySem.W.Frag) (C : Addr) : Sp := fun vs H Q _ => ∃ (x dx : Addr) (v : V) (M : Mat) (m w : Nat) (H0 : Hp), vs = [.ref x, v] ∧ H0 x = none ∧ Same H0 H ∧ H x = some (.ins C dx []) ∧ RowsS K H0 v M ∧ Rect m w M ∧ 0 < m ∧ m ≤ 500 ∧ w ≤ 500 ∧
  ∀ H', WkOn K C H0 H' x m w ⟨M, idm m, idm w⟩ → Q .non H'
theorem ok_Work_init {f : Addr} {fd : FuncData} (F : Df K "__init__" "Work.__init__" s_Work_init f fd) (c : WCl K C) (T : Bn mg) (h_identity : Fn P w K mg base 41 "identity" ["many"] spId) :
    FnOk P w K mg base CX0 42 f fd ["self", "rows"] (spWI K C) := by
  refine body_ok F sc_Work_init (fun vs H Q E h => by obtain ⟨x, dx, v, M, m, w, H0, rfl, _⟩ := h; rfl) (fun cdv A outer s H vs Q E hr h => ?_)
  obtain ⟨x, dx, v, M, m, n, H0, rfl, hx0, s0, hx, hv, R, h0, hm, hn, fin⟩ := h
  obtain ⟨a, xs, rfl, hS, hl, hrow⟩ := hv
  refine ⟨_, (pss_cons (ps_fld (pv 0) (pe_callB (lenS (K := K) rfl) (by rfl) T.len (by decide +kernel) (pa_cons (pv 1) pa_nil)) rfl)
      (pss_cons (ps_fld (pv 0) (pe_callB (lenS (K := K) rfl) (by rfl) T.len (by decide +kernel) (pa_cons (pe_ix (ixS (K := K) rfl) (pv 1) pe_int (fun _ _ => rfl)) pa_nil)) rfl)
      (pss_cons (ps_fld (pv 0) (pe_lc (own := [("row", 2)]) (by rfl) sc_Work_init.nd (piS (K := K) rfl (pv 1)) (blkOk_by (N := ["self", "rows", "row"]) (sc := defScope s_Work_init) (own := [("row", 2)]) (by decide +kernel)) (fun _ _ _ _ _ => (pg_name (i := 2) sc_Work_init.nd rfl (Or.inl rfl) (Or.inr rfl))) (fun _ _ _ _ _ => pts_nil) (fun _ _ _ _ _ => (pe_callTy (listO (K := K) rfl) (by rfl) T.list (by decide +kernel) (pa_cons (pv 2) pa_nil)))) rfl)
      (pss_cons (ps_fld (pv 0) (pe_fn h_identity (hr.mono (by decide)) (by rfl) (pa_cons (fldK (K := K) rfl (pv 0) rfl) pa_nil)) rfl)
      (pss_one (ps_fld (pv 0) (pe_fn h_identity (hr.mono (by decide)) (by rfl) (pa_cons (fldK (K := K) rfl (pv 0) rfl) pa_nil)) rfl)))))), ?_⟩
  have lM : M.length = m := R.1
  have eRow := fun {i : Nat} (hi : i < m) => hrow i _ (getD_at (by rw [lM]; exact hi))
  -- many
  refine ⟨_, rfl, a, xs, rfl, SqS.same s0 hS, _, rfl, x, C, dx, _, rfl, hx, c.cls, c.many, by decide, ?_⟩
  have s1 := same_mut (o := .ins C dx (putF "many" (.int (xs.length : Int)) [])) s0 hx0
  have hx1 : upd H x (.ins C dx (putF "many" (.int (xs.length : Int)) [])) x = some (.ins C dx [("many", .int (m : Int))]) := by
    rw [upd_same, hl, lM]; rfl
  revert s1 hx1
  generalize upd H x (.ins C dx (putF "many" (.int (xs.length : Int)) [])) = H1
  intro s1 hx1
  -- wide
  obtain ⟨p0, g0, q0⟩ := eRow h0
  have l0 : (M.getD 0 []).length = n := R.row h0
  refine ⟨_, rfl, ixR (SqS.same s1 hS) (atI_nat (j := 0) g0) ⟨p0, _, rfl, SqS.same s1 q0, _, rfl, x, C, dx, _, rfl, hx1, c.cls, c.wide, by show 1 < 1000; decide, ?_⟩⟩
  rw [List.length_map, l0]
  have s2 := same_mut (o := .ins C dx (putF "wide" (.int (n : Int)) [("many", .int (m : Int))])) s1 hx0
  have hx2 : upd H1 x (.ins C dx (putF "wide" (.int (n : Int)) [("many", .int (m : Int))])) x = some (.ins C dx [("many", .int (m : Int)), ("wide", .int (n : Int))]) := by
    rw [upd_same]; rfl
  revert s2 hx2
  generalize upd H1 x (.ins C dx (putF "wide" (.int (n : Int)) [("many", .int (m : Int))])) = H2
  intro s2 hx2
  -- grid
  refine ⟨_, rfl, a, xs, rfl, seq_or (SqS.same s2 hS) fun J Gd wk hGd => fun g hg => ?_⟩
  refine lc_new wk hg (fun i p G => H2 p = none ∧ G p = some (.lst (iv (M.getD i [])))) (fun i p G G' s ⟨h1, h2⟩ => ⟨h1, s _ _ h2⟩) (by omega) (fun G s => hGd G s) ?_ ?_
  · rintro i y H3 H4 hi s3 hD3 ⟨rfl, ex⟩ N go
    obtain ⟨p, gp, qp⟩ := eRow (i := i) (by omega)
    cases ex.symm.trans gp
    refine ⟨rfl, _, rfl, p, _, rfl, SqS.same (s2.trans s3) qp, fun Z hZ => go _ _ (same_new hZ) hZ (by rw [upd_same]; exact fun z => nomatch z) ⟨s3.free hZ, ?_⟩⟩
    rw [wo_at (ne_new hD3 hZ), upd_same]
  intro H3 p s3 hg3 hp pinj
  rw [hl, lM] at hg3 hp pinj
  have hx3 := s3 _ _ hx2
  have gx : g ≠ x := (ne_of_none hx2 hg).symm
  have fg : H0 g = none := s2.free hg
  have hp' : ∀ i, i < m → p i ≠ g ∧ p i ≠ x ∧ H0 (p i) = none ∧ H3 (p i) = some (.lst (iv (M.getD i []))) := fun i hi => by
    obtain ⟨⟨e1, e2⟩, e3⟩ := hp i hi
    rw [wo_at e3] at e2
    exact ⟨e3, (ne_of_none hx2 e1).symm, s2.free e1, e2⟩
  have s3' := s2.trans s3
  refine ⟨_, rfl, x, C, dx, _, rfl, hx3, c.cls, c.grid, by show 2 < 1000; decide, ?_⟩
  have s4 := same_mut (o := .ins C dx (putF "grid" (.ref g) [("many", .int (m : Int)), ("wide", .int (n : Int))])) s3' hx0
  have hx4 : upd H3 x (.ins C dx (putF "grid" (.ref g) [("many", .int (m : Int)), ("wide", .int (n : Int))])) x = some (.ins C dx [("many", .int (m : Int)), ("wide", .int (n : Int)), ("grid", .ref g)]) := by
    rw [upd_same]; rfl
  have hg4 : upd H3 x (.ins C dx (putF "grid" (.ref g) [("many", .int (m : Int)), ("wide", .int (n : Int))])) g = some (.lst (refs m p)) := by
    rw [upd_ne gx]; exact hg3
  have hp4 : ∀ i, i < m → upd H3 x (.ins C dx (putF "grid" (.ref g) [("many", .int (m : Int)), ("wide", .int (n : Int))])) (p i) = some (.lst (iv (M.getD i []))) := fun i hi => by
    rw [upd_ne (hp' i hi).2.1]; exact (hp' i hi).2.2.2
  revert s4 hx4 hg4 hp4
  generalize upd H3 x (.ins C dx (putF "grid" (.ref g) [("many", .int (m : Int)), ("wide", .int (n : Int))])) = H4
  intro s4 hx4 hg4 hp4
  -- lefts
  refine ⟨_, rfl, x, C, dx, _, _, rfl, hx4, c.cls, c.many, rfl, m, rfl, by omega, fun l H5 s5 hN => ?_⟩
  have hx5 := s5 _ _ hx4
  refine ⟨_, rfl, x, C, dx, _, rfl, hx5, c.cls, c.lefts, by show 3 < 1000; decide, ?_⟩
  obtain ⟨q, hl5, hq5⟩ := NewM.refs hN
  have fl4 := hN.1
  rw [(idm_rect m).1] at hl5 hq5
  have lx : l ≠ x := (ne_of_none hx4 fl4).symm
  have lg : l ≠ g := (ne_of_none hg4 fl4).symm
  have lp : ∀ i, i < m → l ≠ p i := fun i hi => (ne_of_none (hp4 i hi) fl4).symm
  have qx : ∀ i, i < m → q i ≠ x ∧ q i ≠ g ∧ ∀ j, j < m → q i ≠ p j := fun i hi => ⟨(ne_of_none hx4 (hq5 i hi).2.1).symm, (ne_of_none hg4 (hq5 i hi).2.1).symm, fun j hj => (ne_of_none (hp4 j hj) (hq5 i hi).2.1).symm⟩
  have s6 := same_mut (o := .ins C dx (putF "lefts" (.ref l) [("many", .int (m : Int)), ("wide", .int (n : Int)), ("grid", .ref g)])) (s4.trans s5) hx0
  have hx6 : upd H5 x (.ins C dx (putF "lefts" (.ref l) [("many", .int (m : Int)), ("wide", .int (n : Int)), ("grid", .ref g)])) x = some (.ins C dx [("many", .int (m : Int)), ("wide", .int (n : Int)), ("grid", .ref g), ("lefts", .ref l)]) := by
    rw [upd_same]; rfl
  have at6 : ∀ b o, b ≠ x → H5 b = some o → upd H5 x (.ins C dx (putF "lefts" (.ref l) [("many", .int (m : Int)), ("wide", .int (n : Int)), ("grid", .ref g)])) b = some o := fun b o e1 e2 => by rw [upd_ne e1]; exact e2
  have hg6 := at6 _ _ gx (s5 _ _ hg4)
  have hl6 := at6 _ _ lx hl5
  have hp6 := fun i hi => at6 _ _ (hp' i hi).2.1 (s5 _ _ (hp4 i hi))
  have hq6 := fun i hi => at6 _ _ (qx i hi).1 (hq5 i hi).2.2
  clear at6
  revert s6 hx6 hg6 hl6 hp6 hq6
  generalize upd H5 x (.ins C dx (putF "lefts" (.ref l) [("many", .int (m : Int)), ("wide", .int (n : Int)), ("grid", .ref g)])) = H6
  intro s6 hx6 hg6 hl6 hp6 hq6
  -- rights
  refine ⟨_, rfl, x, C, dx, _, _, rfl, hx6, c.cls, c.wide, rfl, n, rfl, by omega, fun r H7 s7 hN2 => ?_⟩
  have hx7 := s7 _ _ hx6
  obtain ⟨t, hr7, ht7⟩ := NewM.refs hN2
  have fr6 := hN2.1
  rw [(idm_rect n).1] at hr7 ht7
  refine ⟨_, rfl, x, C, dx, _, rfl, hx7, c.cls, c.rights, by show 4 < 1000; decide, ?_⟩
  have rx : r ≠ x := (ne_of_none hx6 fr6).symm
  have tx : ∀ i, i < n → t i ≠ x := fun i hi => (ne_of_none hx6 (ht7 i hi).2.1).symm
  have at8 : ∀ b o, b ≠ x → H7 b = some o → upd H7 x (.ins C dx (putF "rights" (.ref r) [("many", .int (m : Int)), ("wide", .int (n : Int)), ("grid", .ref g), ("lefts", .ref l)])) b = some o := fun b o e1 e2 => by rw [upd_ne e1]; exact e2
  refine fin _ ⟨dx, g, l, r, p, q, t, ?_⟩
  exact {
    s0 := same_mut (s6.trans s7) hx0
    hx := by rw [upd_same]; rfl
    hg := at8 _ _ gx (s7 _ _ hg6)
    hl := at8 _ _ lx (s7 _ _ hl6)
    hr := at8 _ _ rx hr7
    row := fun i hi => at8 _ _ (hp' i hi).2.1 (s7 _ _ (hp6 i hi))
    rowl := fun i hi => at8 _ _ (qx i hi).1 (s7 _ _ (hq6 i hi))
    rowr := fun i hi => at8 _ _ (tx i hi) (ht7 i hi).2.2
    inj := pinj
    gl := lg.symm
    gr := ne_of_none hg6 fr6
    lr := ne_of_none hl6 fr6
    pg := fun i hi => ⟨(hp' i hi).1, (lp i hi).symm, ne_of_none (hp6 i hi) fr6, (hp' i hi).2.1⟩
    qo := fun i hi => ⟨(qx i hi).1, (qx i hi).2.1, (hq5 i hi).1, ne_of_none (hq6 i hi) fr6, (qx i hi).2.2⟩
    to_ := fun i hi => ⟨tx i hi, (ne_of_none hg6 (ht7 i hi).2.1).symm, (ne_of_none hl6 (ht7 i hi).2.1).symm, (ht7 i hi).1, fun j hj => (ne_of_none (hp6 j hj) (ht7 i hi).2.1).symm⟩
    fx := hx0
    fg := fg
    fl := s4.free fl4
    fr := s6.free fr6
    fp := fun i hi => (hp' i hi).2.2.1
    fq := fun i hi => s4.free (hq5 i hi).2.1
    ft := fun i hi => s6.free (ht7 i hi).2.1
    wr := ⟨R, idm_rect m, idm_rect n⟩ }
end
end K51W

set_option maxHeartbeats 200000
/-! smith_of. -/
namespace K51W
open PySem PySem.Spec PyProof.Rows L2 K51
section
variable {P : Program} {w : World} {K : PySem.W.Frag} {mg : Str → Option Value} {base : Heap} {C : Addr}
theorem dp_rows {G H : Hp} {a : Addr} {n : Nat} {p : Nat → Addr} {M : Mat} (ha : G a = none) (h1 : H a = some (.lst (refs n p))) (l : M.length = n) (h2 : ∀ i, i < n → G (p i) = none ∧ H (p i) = some (.lst (iv (M.getD i [])))) : Dp K (nw eH G H) (.ref a) (dM M) :=
  .lst (sqL (by rw [nw_new ha]; exact h1)) (DpAll.of (by rw [refs_len, List.length_map, l]) fun i v d hv hd => by
    have hi : i < n := by have := (List.getElem?_eq_some_iff.mp hv).1; rwa [refs_len] at this
    rw [refs_at hi] at hv
    rw [List.getElem?_map, getD_at (by rw [l]; exact hi)] at hd
    cases hv
    cases hd
    exact mk_ints (h2 i hi).1 (h2 i hi).2)
def spSmi (K : PySem.W.Frag) : Sp := fun vs H Q _ => ∃ (v : V) (B : Mat) (m w e : Nat) (Post : Wk → Prop), vs = [v] ∧ RowsS K H v B ∧ Rect m w B ∧ 0 < m ∧ m ≤ w ∧ w ≤ 500 ∧ e ≤ 66900000 ∧ MOk e m w m 0 ⟨B, idm m, idm w⟩ Post ∧
  ∀ W H' p l g r, Same H H' → WR m w W → Post W → H p = none → H' p = some (.tup [l, g, r]) → Dp K (nw eH H H') l (dM W.l) → Dp K (nw eH H H') g (dM W.g) → Dp K (nw eH H H') r (dM (turnM w W.r)) → Q (.ref p) H'
theorem ok_smith_of {f : Addr} {fd : FuncData} (F : Df K "smith_of" "smith_of" s_smith_of f fd) (c : WCl K C) (T : Bn mg) (k_Work : Mc P w K mg base 42 "Work" C ["self", "rows"] (spWI K C)) (m_settle : Md P w K mg base 44 C "settle" ["self", "start"] (spSe K C))
    (h_turned : Fn P w K mg base 41 "turned" ["rows"] (spTurned K)) : FnOk P w K mg base CX0 45 f fd ["rows"] (spSmi K) := by
  have c_Work := c.cls
  refine body_ok F sc_smith_of (fun vs H Q E h => by obtain ⟨v, B, m, w, e, Post, rfl, _⟩ := h; rfl) (fun cdv A outer s H vs Q E hr h => ?_)
  obtain ⟨v, B, m, n, e, Post, rfl, hv, R, h0, hmn, hn, he, hk, fin⟩ := h
  refine ⟨_, (pss_cons (ps_set (i := 1) sc_smith_of.nd rfl (Or.inl rfl) (pe_mkc k_Work (hr.mono (by decide)) (by rfl) (pa_cons (pv 0) pa_nil)))
      (pss_cons (ps_for PassesOwn.never rfl (pi_range1 (by rfl) T.range (pa_cons (pe_callB (call_min2 rfl) (by rfl) T.min (by decide +kernel) (pa_cons (fldK (K := K) rfl (pv 1) rfl) (pa_cons (fldK (K := K) rfl (pv 1) rfl) pa_nil))) pa_nil)) (pg_name (i := 2) sc_smith_of.nd rfl (Or.inl rfl) (Or.inr rfl))
      (pss_cons (ps_if (pt_not (pt_val (pe_md m_settle c_Work (hr.mono (by decide)) (pv 1) (pa_cons (pv 2) pa_nil)))) (pss_one ps_break) pss_nil)
      (pss_one (ps_if (pt_cmpR op_lt (pe_ix (ixL (K := K) rfl) (pe_ix (ixL (K := K) rfl) (fldK (K := K) rfl (pv 1) rfl) (pv 2) (fun _ _ => rfl)) (pv 2) (fun _ _ => rfl)) pe_int (nomark _)) (pss_cons (ps_asg (pe_lc (own := [("item", 3)]) (by rfl) sc_smith_of.nd (piL (K := K) rfl (pe_ix (ixL (K := K) rfl) (fldK (K := K) rfl (pv 1) rfl) (pv 2) (fun _ _ => rfl))) (blkOk_by (N := ["rows", "work", "start", "item"]) (sc := defScope s_smith_of) (own := [("item", 3)]) (by decide +kernel)) (fun _ _ _ _ _ => (pg_name (i := 3) sc_smith_of.nd rfl (Or.inl rfl) (Or.inr rfl))) (fun _ _ _ _ _ => pts_nil) (fun _ _ _ _ _ => (pe_un un_neg (pv 3)))) (pg_sub (fldK (K := K) rfl (pv 1) rfl) (pv 2) set_list))
      (pss_one (ps_asg (pe_lc (own := [("item", 3)]) (by rfl) sc_smith_of.nd (piL (K := K) rfl (pe_ix (ixL (K := K) rfl) (fldK (K := K) rfl (pv 1) rfl) (pv 2) (fun _ _ => rfl))) (blkOk_by (N := ["rows", "work", "start", "item"]) (sc := defScope s_smith_of) (own := [("item", 3)]) (by decide +kernel)) (fun _ _ _ _ _ => (pg_name (i := 3) sc_smith_of.nd rfl (Or.inl rfl) (Or.inr rfl))) (fun _ _ _ _ _ => pts_nil) (fun _ _ _ _ _ => (pe_un un_neg (pv 3)))) (pg_sub (fldK (K := K) rfl (pv 1) rfl) (pv 2) set_list)))) pss_nil))))
      (pss_one (ps_ret (pe_tup (pa_cons (fldK (K := K) rfl (pv 1) rfl) (pa_cons (fldK (K := K) rfl (pv 1) rfl) (pa_cons (pe_fn h_turned (hr.mono (by decide)) (by rfl) (pa_cons (fldK (K := K) rfl (pv 1) rfl) pa_nil)) pa_nil)))))))), ?_⟩
  refine ⟨_, rfl, fun x dx hx hdx nx => ?_⟩
  have sx : Same H (upd (upd H dx (.own x)) x (.ins C dx [])) := (same_new hdx).trans (same_new (by rw [upd_ne (Ne.symm nx)]; exact hx))
  refine ⟨x, dx, v, B, m, n, H, rfl, hx, sx, upd_same, hv, R, h0, by omega, hn, fun H1 WK1 => ⟨rfl, ?_⟩⟩
  obtain ⟨dx, g, l, r, p, q, t, I⟩ := id WK1
  refine ⟨_, rfl, ?_⟩
  refine ⟨x, C, dx, _, _, rfl, I.hx, c.cls, c.many, rfl, _, rfl, x, C, dx, _, _, rfl, I.hx, c.cls, c.wide, rfl, _, _, rfl, ?_⟩
  rw [if_neg (by omega)]
  refine ⟨m, rfl, by omega, by omega, ?_⟩
  refine for_it walk_range (fun i σ H' => ∃ y2 W, σ = [some v, some (.ref x), y2, none] ∧ WkOn K C H H' x m n W ∧ MOk e m n (m - i) i W Post) ⟨none, _, rfl, WK1, by rw [Nat.sub_zero]; exact hk⟩ (fun _ _ _ _ _ => trivial) ?_ ?_
  · rintro i xv σ H2 H3 hi ⟨y2, W, rfl, WK2, hk2⟩ ⟨rfl, rfl⟩
    have him : i < m := by omega
    rw [show m - i = (m - (i + 1)) + 1 by omega] at hk2
    obtain ⟨fu, hs⟩ := hk2
    obtain ⟨dx, g, l, r, p, q, t, I2⟩ := id WK2
    have ei : (0 : Int) + (i : Int) = (i : Int) := by omega
    refine ⟨_, rfl, x, dx, _, rfl, I2.hx, rfl, _, rfl, ?_⟩
    refine ⟨x, i, m, n, e, fu, H, W, _, congrArg (fun z => [V.ref x, V.int z]) ei, WK2, him, by omega, by omega, by omega, he, hs, fun W' H4 WK4 hP => ⟨_, rfl, ?_⟩⟩
    clear hs
    have cell := iv_at WK4.wr.g him (show i < n by omega)
    have eN : negS W' i = if ent W'.g i i < 0 then ⟨negR W'.g i, negR W'.l i, W'.r⟩ else W' := rfl
    obtain ⟨dx, g, l, r, p, q, t, I4⟩ := id WK4
    refine ⟨_, rfl, x, C, dx, _, _, rfl, I4.hx, c.cls, c.grid, rfl, _, rfl, g, _, _, _, rfl, rfl, sqL I4.hg, at_of ei (refs_at him), _, rfl, p i, _, _, _, rfl, rfl, sqL (I4.row _ him), at_of ei cell, _, _, rfl, rfl, _, rfl, ?_⟩
    by_cases hn0 : ent W'.g i i < 0
    · rw [decide_eq_true hn0]
      rw [eN, if_pos hn0] at hP
      refine ⟨_, rfl, x, C, dx, _, _, rfl, I4.hx, c.cls, c.grid, rfl, _, rfl, g, _, _, _, rfl, rfl, sqL I4.hg, at_of ei (refs_at him), p i, rfl, ⟨_, sqL (I4.row _ him)⟩, fun D hD => ?_⟩
      refine lc_map walk_list hD (fun j v _ => ∃ u, (W'.g.getD i [])[j]? = some u ∧ v = .int (-u)) (fun _ _ _ _ _ z => z) (by rw [List.length_map, I4.wr.g.row him]; omega) (fun _ s5 => s5.seq (sqL (I4.row _ him))) ?_ ?_
      · rintro j x H4 H5 hj s5 hD5 ⟨rfl, ex⟩ Nx go
        obtain ⟨u, hu, rfl⟩ := iv_get ex
        exact ⟨rfl, _, rfl, _, rfl, go _ _ (Same.refl _) ⟨u, hu, rfl⟩⟩
      intro H5 ys s5 e1 e2 e3
      have ey : ys = iv ((W'.g.getD i []).map fun x => -x) := ext_of (by rw [e2]; simp) fun j y z hy hz => by
        obtain ⟨u, hu, rfl⟩ := e3 j y hy
        rw [List.getElem?_map, List.getElem?_map, hu] at hz
        exact Option.some.inj hz
      subst ey
      have I5 := I4.same s5
      refine ⟨_, rfl, x, C, dx, _, _, rfl, I5.hx, c.cls, c.grid, rfl, _, rfl, g, _, _, i, rfl, rfl, I5.hg, by rw [refs_len, ei]; exact ix_lt him, ?_⟩
      have I6 := I5.setG him (I4.new hD) (fun j hj => ne_of_none (I4.rowl j hj) hD) (fun j hj => ne_of_none (I4.rowr j hj) hD) e1 (I4.s0.free hD) (by rw [List.length_map]; exact I4.wr.g.row him)
      refine ⟨_, rfl, x, C, dx, _, _, rfl, I6.hx, c.cls, c.lefts, rfl, _, rfl, l, _, _, _, rfl, rfl, sqL I6.hl, at_of ei (refs_at him), q i, rfl, ⟨_, sqL (I6.rowl _ him)⟩, fun D2 hD2 => ?_⟩
      refine lc_map walk_list hD2 (fun j v _ => ∃ u, (W'.l.getD i [])[j]? = some u ∧ v = .int (-u)) (fun _ _ _ _ _ z => z) (by rw [List.length_map, I4.wr.l.row him]; omega) (fun _ s5 => s5.seq (sqL (I6.rowl _ him))) ?_ ?_
      · rintro j x H4 H5 hj s5 hD5 ⟨rfl, ex⟩ Nx go
        obtain ⟨u, hu, rfl⟩ := iv_get ex
        exact ⟨rfl, _, rfl, _, rfl, go _ _ (Same.refl _) ⟨u, hu, rfl⟩⟩
      intro H7 ys s7 e1 e2 e3
      have ey : ys = iv ((W'.l.getD i []).map fun x => -x) := ext_of (by rw [e2]; simp) fun j y z hy hz => by
        obtain ⟨u, hu, rfl⟩ := e3 j y hy
        rw [List.getElem?_map, List.getElem?_map, hu] at hz
        exact Option.some.inj hz
      subst ey
      have I7 := I6.same s7
      refine ⟨_, rfl, x, C, dx, _, _, rfl, I7.hx, c.cls, c.lefts, rfl, _, rfl, l, _, _, i, rfl, rfl, I7.hl, by rw [refs_len, ei]; exact ix_lt him, ?_⟩
      exact ⟨_, _, rfl, ⟨_, _, _, _, _, _, _, I7.setL him (I6.new hD2) e1 (I6.s0.free hD2) (by rw [List.length_map]; exact I4.wr.l.row him)⟩, hP⟩
    · rw [decide_eq_false hn0]
      rw [eN, if_neg hn0] at hP
      exact ⟨_, _, rfl, WK4, hP⟩
  · rintro σ H2 ⟨y2, W, rfl, WK2, hk2⟩
    rw [show m - (m : Int).toNat = 0 by omega] at hk2
    have hP : Post W := hk2
    obtain ⟨dx, g, l, r, p, q, t, I2⟩ := id WK2
    refine ⟨_, rfl, x, C, dx, _, _, rfl, I2.hx, c.cls, c.lefts, rfl, _, rfl, x, C, dx, _, _, rfl, I2.hx, c.cls, c.grid, rfl, _, rfl, x, C, dx, _, _, rfl, I2.hx, c.cls, c.rights, rfl, ?_⟩
    have s2 := I2.s0
    have dl := dp_rows (K := K) I2.fl I2.hl I2.wr.l.1 fun i hi => ⟨I2.fq i hi, I2.rowl i hi⟩
    have dg := dp_rows (K := K) I2.fg I2.hg I2.wr.g.1 fun i hi => ⟨I2.fp i hi, I2.row i hi⟩
    have dr := dp_rows (K := K) I2.fr I2.hr I2.wr.r.1 fun i hi => ⟨I2.ft i hi, I2.rowr i hi⟩
    refine ⟨_, W.r, n, n, rfl, Dp.up (nw_le (eH_same _)) _ dr, I2.wr.r, by omega, by omega, by omega, fun v3 H3 s3 d3 => ?_⟩
    refine ⟨by show 3 ≤ sizeLine; decide, fun pt hpt => ?_⟩
    have sp := same_new (o := .tup [.ref l, .ref g, v3]) hpt
    have sE := s3.trans sp
    exact fin W _ pt _ _ _ (s2.trans sE) I2.wr hP ((s2.trans s3).free hpt) upd_same (Dp.up (nw_mono sE) _ dl) (Dp.up (nw_mono sE) _ dg) (Dp.up (nw_far s2 sp) _ d3)
end
end K51W

set_option maxHeartbeats 200000
/-! kernel_of. -/
namespace K51W
open PySem PySem.Spec PyProof.Rows L2 K51
theorem lay_ints : ∀ r : List Int, PyData.canLayAll0 (r.map .int) = true ∧ PyData.depthAll (r.map .int) = 0
  | [] => ⟨rfl, rfl⟩
  | x :: r => by
    obtain ⟨h1, h2⟩ := lay_ints r
    simp [PyData.canLayAll0, PyData.canLay0, PyData.depthAll, PyData.depth, h1, h2]
theorem lay_rowsT : ∀ M : Mat, PyData.canLayAll0 (M.map dTI) = true ∧ PyData.depthAll (M.map dTI) ≤ 1
  | [] => ⟨rfl, Nat.zero_le _⟩
  | r :: M => by
    obtain ⟨h1, h2⟩ := lay_rowsT M
    obtain ⟨h3, h4⟩ := lay_ints r
    simp [PyData.canLayAll0, PyData.canLay0, PyData.depthAll, PyData.depth, h1, h3, h4]
    omega
theorem lay_rowsL : ∀ M : Mat, PyData.canLayAll0 (M.map dI) = true ∧ PyData.depthAll (M.map dI) ≤ 1
  | [] => ⟨rfl, Nat.zero_le _⟩
  | r :: M => by
    obtain ⟨h1, h2⟩ := lay_rowsL M
    obtain ⟨h3, h4⟩ := lay_ints r
    simp [PyData.canLayAll0, PyData.canLay0, PyData.depthAll, PyData.depth, h1, h3, h4]
    omega
theorem shaped_dT (M : Mat) : SeqAt.shaped (dT M) = true := by
  obtain ⟨h1, h2⟩ := lay_rowsT M
  simp only [SeqAt.shaped, PyData.canLay0, PyData.depth, h1, Bool.true_and]
  exact decide_eq_true (by omega)
theorem shaped_dM (M : Mat) : SeqAt.shaped (dM M) = true := by
  obtain ⟨h1, h2⟩ := lay_rowsL M
  simp only [SeqAt.shaped, PyData.canLay0, PyData.depth, h1, Bool.true_and]
  exact decide_eq_true (by omega)
theorem eqv_nilT (M : Mat) : PyData.eqv (dT M) (.tuple []) = M.isEmpty := by
  cases M with
  | nil => rfl
  | cons r M => rfl
theorem eqv_nilL (M : Mat) : PyData.eqv (dM M) (.list []) = M.isEmpty := by
  cases M with
  | nil => rfl
  | cons r M => rfl
section
variable {P : Program} {w : World} {K : PySem.W.Frag} {mg : Str → Option Value} {base : Heap} {C : Addr}
def spKer (K : PySem.W.Frag) : Sp := fun vs H Q _ => ∃ (v : V) (A : Mat) (m w e : Nat) (Res : Mat → Prop), vs = [v] ∧ Dp K H v (dM A) ∧ Rect m w A ∧ 0 < m ∧ m ≤ 500 ∧ 0 < w ∧ w ≤ 500 ∧ e ≤ 66900000 ∧ KOk e m w A Res ∧
  ∀ N H' v, Same H H' → Res N → Dp K (nw eH H H') v (dT N) → Q v H'
theorem ok_kernel_of {f : Addr} {fd : FuncData} (F : Df K "kernel_of" "kernel_of" s_kernel_of f fd) (T : Bn mg) (h_basis_rows : Fn P w K mg base 44 "basis_rows" ["rows"] (spBa K)) (h_smith_of : Fn P w K mg base 45 "smith_of" ["rows"] (spSmi K))
    (h_identity : Fn P w K mg base 41 "identity" ["many"] spId) (h_turned : Fn P w K mg base 41 "turned" ["rows"] (spTurned K)) : FnOk P w K mg base CX0 46 f fd ["rows"] (spKer K) := by
  refine body_ok F sc_kernel_of (fun vs H Q E h => by obtain ⟨v, B, m, w, e, Post, rfl, _⟩ := h; rfl) (fun cdv A outer s H vs Q E hr h => ?_)
  obtain ⟨v, A, m, n, e, Res, rfl, hv, R, h0, hm, hn0, hn, he, ⟨P1, hF, hk⟩, fin⟩ := h
  refine ⟨_, (pss_cons (ps_set (i := 1) sc_kernel_of.nd rfl (Or.inl rfl) (pe_fn h_basis_rows (hr.mono (by decide)) (by rfl) (pa_cons (pv 0) pa_nil)))
      (pss_cons (ps_if (pt_cmpR (eqD (K := K) rfl hr.units) (pv 1) (pe_tup pa_nil) (nomark _)) (pss_one (ps_ret (pe_callTy (tupO (K := K) rfl) (by rfl) T.tuple (by decide +kernel) (pa_cons (pe_lc (own := [("row", 2)]) (by rfl) sc_kernel_of.nd (piL (K := K) rfl (pe_fn h_identity (hr.mono (by decide)) (by rfl) (pa_cons (pe_callB (lenS (K := K) rfl) (by rfl) T.len (by decide +kernel) (pa_cons (pe_ix (ixL (K := K) rfl) (pv 0) pe_int (fun _ _ => rfl)) pa_nil)) pa_nil))) (blkOk_by (N := ["rows", "basis", "row", "right", "columns"]) (sc := defScope s_kernel_of) (own := [("row", 2)]) (by decide +kernel)) (fun _ _ _ _ _ => (pg_name (i := 2) sc_kernel_of.nd rfl (Or.inl rfl) (Or.inr rfl))) (fun _ _ _ _ _ => pts_nil) (fun _ _ _ _ _ => (pe_callTy (tupO (K := K) rfl) (by rfl) T.tuple (by decide +kernel) (pa_cons (pv 2) pa_nil)))) pa_nil)))) pss_nil)
      (pss_cons (ps_set (i := 3) sc_kernel_of.nd rfl (Or.inl rfl) (pe_ix (ixT (K := K) rfl) (pe_fn h_smith_of (hr.mono (by decide)) (by rfl) (pa_cons (pv 1) pa_nil)) pe_int (fun _ _ => rfl)))
      (pss_cons (ps_set (i := 4) sc_kernel_of.nd rfl (Or.inl rfl) (pe_slice (slL (K := K) rfl) (pe_fn h_turned (hr.mono (by decide)) (by rfl) (pa_cons (pv 3) pa_nil)) (po_some (pe_callB (lenS (K := K) rfl) (by rfl) T.len (by decide +kernel) (pa_cons (pv 1) pa_nil))) po_none))
      (pss_one (ps_ret (pe_ifExp (pt_cmpR (neD (K := K) rfl hr.units) (pv 4) (pe_lst pa_nil) (nomark _)) (pe_fn h_basis_rows (hr.mono (by decide)) (by rfl) (pa_cons (pv 4) pa_nil)) (pe_tup pa_nil)))))))), ?_⟩
  refine ⟨_, rfl, ?_⟩
  refine ⟨v, A, m, n, e, P1, rfl, hv, R, h0, hm, hn, he, hF, fun s M H1 v1 s1 hP R1 d1 => ?_⟩
  have d1' := Dp.up (nw_le (eH_same _)) _ d1
  obtain ⟨hk1, hk2⟩ := hk s M hP R1
  have rM : Rect (M.filter nz).length n (M.filter nz) := ⟨rfl, fun r hr => R1.2 r (List.mem_filter.mp hr).1⟩
  revert hk1 hk2 d1 d1' rM
  generalize M.filter nz = B
  intro d1 d1' hk1 hk2 rM
  refine ⟨_, rfl, by show 0 ≤ sizeLine; decide, fun z0 hz0 => ?_⟩
  have s2 := same_new (o := .tup []) hz0
  refine ⟨dT B, .tuple [], Dp.up s2 _ d1', .tup (sqT upd_same) .nil, shaped_dT _, rfl, _, rfl, ?_⟩
  rw [eqv_nilT]
  revert s2
  generalize upd H1 z0 (.tup []) = H2
  intro s2
  obtain ⟨a, xs, rfl, hS, hl, hrow⟩ := get_rows hv
  have lA : A.length = m := R.1
  obtain ⟨p0, g0, q0⟩ := hrow 0 A[0] (List.getElem?_eq_getElem (by omega))
  have l0 : A[0].length = n := R.2 _ (List.getElem_mem (by omega))
  have s12 := s1.trans s2
  cases B with
  | nil =>
    refine ⟨_, rfl, a, xs, 0, _, rfl, rfl, s12.seq hS, atI_nat (j := 0) g0, p0, _, rfl, .inl (s12.seq q0), n, congrArg (fun z : Nat => [V.int (z : Int)]) (by rw [List.length_map, l0] : (iv A[0]).length = n), by omega, fun I H3 s3 hN => ?_⟩
    obtain ⟨q, hI, hq⟩ := NewM.refs hN
    rw [(idm_rect n).1] at hI hq
    refine ⟨I, rfl, ⟨_, sqL hI⟩, fun D hD => ?_⟩
    refine lc_map walk_list hD (fun j v G => Dp K (nw eH H G) v (dTI ((idm n).getD j []))) (fun i v G G' s h => Dp.up (nw_mono s) _ h) (by rw [refs_len]; omega) (fun _ s5 => s5.seq (sqL hI)) ?_ ?_
    · rintro i x H4 H5 hi s4 hD4 ⟨rfl, ex⟩ N go
      rw [refs_len] at hi
      rw [refs_at hi] at ex
      cases ex
      refine ⟨rfl, _, rfl, q i, _, rfl, .inl ⟨sqL (s4 _ _ (hq i hi).2.2), fun Z hZ => go _ _ (same_new hZ) ?_⟩⟩
      exact .tup (sqT (by rw [nw_new ((s12.trans (s3.trans s4)).free hZ), wo_at (ne_new hD4 hZ), upd_same])) (DpAll.ints _)
    · intro H4 ys s4 f1 f2 f3
      refine ⟨D, ys, rfl, .inl ⟨sqL f1, fun Z hZ => ?_⟩⟩
      have sF := s12.trans (s3.trans s4)
      refine fin _ _ _ (sF.trans (same_new hZ)) (hk1 rfl) (.tup (sqT (by rw [nw_new (sF.free hZ)]; exact upd_same)) (DpAll.of ?_ fun j v d hv hd => ?_))
      · rw [f2, refs_len, List.length_map, (idm_rect n).1]
      · have hj : j < n := by have := (List.getElem?_eq_some_iff.mp hv).1; rw [f2, refs_len] at this; exact this
        rw [List.getElem?_map, getD_at (by rw [(idm_rect n).1]; exact hj)] at hd
        cases hd
        exact Dp.up (nw_mono (wo_le.trans (same_new hZ))) _ (f3 j v hv)
  | cons r0 B0 =>
    refine iteF ?_
    dsimp only [tNext]
    obtain ⟨lB, P2, hM, hW⟩ := hk2 (fun z => nomatch z)
    have hB0 : 0 < (r0 :: B0).length := Nat.succ_pos _
    revert lB hM hW d1 d1' rM hB0
    generalize r0 :: B0 = B
    intro d1 d1' rM lB hM hW hB0
    have d2 := Dp.up s2 _ d1'
    refine ⟨_, rfl, ?_⟩
    refine ⟨_, B, B.length, n, e, P2, rfl, RowsS.tup d2, rM, hB0, lB, hn, he, hM, fun W H3 p l g r s3 hWR hP2 np hp dl dg dr => ?_⟩
    obtain ⟨hW1, hW2⟩ := hW W hP2 hWR
    refine ⟨p, _, 2, _, rfl, rfl, sqT hp, rfl, ?_⟩
    refine ⟨_, rfl, ?_⟩
    have hr2 := hWR.r
    refine ⟨_, turnM n W.r, n, n, rfl, Dp.up (nw_le (eH_same _)) _ dr, turn_rect hr2.1, hn0, by omega, by omega, fun v4 H4 s4 d4 => ?_⟩
    rw [turn_turn hr2] at d4
    obtain ⟨b, bs, rfl, hb, db⟩ := Dp.tupI d2
    have lb : bs.length = B.length := by rw [DpAll.len db, List.length_map]
    have s34 := s3.trans s4
    refine ⟨_, rfl, b, _, rfl, .inr (Same.seqT s34 hb), _, rfl, ?_⟩
    obtain ⟨a4, xs4, rfl, q4, l4, r4⟩ := get_rows (Dp.up (nw_le (eH_same _)) _ d4)
    have hcut : cutV xs4 (some (bs.length : Int)) none = xs4.drop B.length := by
      rw [cut_drop (by rw [lb, l4, hr2.1]; exact lB), lb]
    refine ⟨a4, xs4, rfl, q4, fun Z hZ => ?_⟩
    rw [hcut]
    have sZ := same_new (o := .lst (xs4.drop B.length)) hZ
    have lr : W.r.length = n := hr2.1
    have rD : Rect (n - B.length) n (W.r.drop B.length) := ⟨by rw [List.length_drop, lr], fun r hr => hr2.2 r (List.mem_of_mem_drop hr)⟩
    have dZ : Dp K (upd H4 Z (.lst (xs4.drop B.length))) (.ref Z) (dM (W.r.drop B.length)) := .lst (sqL upd_same) (DpAll.of (by rw [List.length_drop, List.length_map, List.length_drop, l4]) fun j v d hv hd => by
      rw [List.getElem?_drop] at hv
      rw [List.getElem?_map, List.getElem?_drop] at hd
      obtain ⟨r', hr', rfl⟩ := Option.map_eq_some_iff.mp hd
      obtain ⟨p', g1, g2⟩ := r4 _ _ hr'
      cases g1.symm.trans hv
      exact .lst (sZ.seq g2) (DpAll.ints _))
    revert sZ dZ
    generalize upd H4 Z (.lst (xs4.drop B.length)) = H5
    intro sZ dZ
    refine ⟨_, rfl, by show 0 ≤ sizeLine; decide, fun z1 hz1 => ?_⟩
    have sz := same_new (o := .lst []) hz1
    refine ⟨dM (W.r.drop B.length), .list [], Dp.up sz _ dZ, .lst (sqL upd_same) .nil, shaped_dM _, rfl, _, rfl, ?_⟩
    rw [eqv_nilL]
    have sA := s12.trans (s34.trans (sZ.trans sz))
    revert sA
    generalize upd H5 z1 (.lst []) = H6 at sz ⊢
    intro sA
    by_cases hlt : B.length < n
    · have ee : (W.r.drop B.length).isEmpty = false := by
        rw [List.isEmpty_eq_false_iff]
        intro z
        have := congrArg List.length z
        rw [rD.1] at this
        simp at this
        omega
      rw [ee]
      obtain ⟨P3, hF3, hR3⟩ := hW1 hlt
      refine ⟨_, rfl, ?_⟩
      refine ⟨_, W.r.drop B.length, n - B.length, n, e, P3, rfl, Dp.up sz _ dZ, rD, by omega, by omega, by omega, he, hF3, fun s3' M3 H7 v7 s7 hP3 R3 d7 => ?_⟩
      refine fin _ _ _ (sA.trans s7) (hR3 _ _ hP3 R3) (Dp.up (nw_far sA (Same.refl _)) _ d7)
    · have ee : (W.r.drop B.length).isEmpty = true := by
        rw [List.isEmpty_iff]
        exact List.drop_eq_nil_of_le (by omega)
      rw [ee]
      refine ⟨by show 0 ≤ sizeLine; decide, fun z2 hz2 => ?_⟩
      exact fin _ _ _ (sA.trans (same_new hz2)) (hW2 (by omega)) (.tup (sqT (by rw [nw_new (sA.free hz2), upd_same])) .nil)
end
end K51W

set_option maxHeartbeats 200000
/-! Equations.__init__. -/
namespace K51W
open PySem PySem.Spec PyProof.Rows L2 K51
section
variable {K : PySem.W.Frag}
/-- the class Equations -/
structure ECl (K : PySem.W.Frag) (C : Addr) : Prop where
  cls : Cls K C
  lefts : NoAttr K C "lefts"
  rank : NoAttr K C "rank"
  wide : NoAttr K C "wide"
  forms : NoAttr K C "forms"
/-- Equations on the heap -/
def EqOn (K : PySem.W.Frag) (C : Addr) (H : Hp) (x : Addr) (lef : Mat) (s w : Nat) (L G R : Mat) : Prop := ∃ (dx p : Addr) (vl a b c : V), H x = some (.ins C dx [("lefts", vl), ("rank", .int (s : Int)), ("wide", .int (w : Int)), ("forms", .ref p)]) ∧
  Dp K H vl (dM lef) ∧ H p = some (.tup [a, b, c]) ∧ Dp K H a (dM L) ∧ Dp K H b (dM G) ∧ Dp K H c (dM R)
theorem nw_updx {G H : Hp} {x : Addr} {o : HO} (h : G x ≠ none) : Same (nw eH G H) (nw eH G (upd H x o)) := fun b u e => by
  cases q : G b with
  | none =>
    rw [nw_new q] at e ⊢
    rw [upd_ne (fun z : b = x => h (by rw [← z]; exact q))]
    exact e
  | some v => rw [nw_old q] at e; cases e
theorem upd_free {H : Hp} {x q : Addr} {o : HO} (h : upd H x o q = none) : H q = none := by
  by_cases e : q = x
  · rw [e, upd_same] at h; cases h
  · rwa [upd_ne e] at h
end
section
variable {P : Program} {w : World} {K : PySem.W.Frag} {mg : Str → Option Value} {base : Heap} {C : Addr}
def spEI (K : PySem.W.Frag) (C : Addr) : Sp := fun vs H Q _ => ∃ (x dx : Addr) (v : V) (A : Mat) (m w e : Nat) (H0 : Hp) (Res : Mat → Mat → Nat → Mat → Mat → Mat → Prop), vs = [.ref x, v] ∧ H0 x = none ∧ Same H0 H ∧ H x = some (.ins C dx []) ∧ Dp K H0 v (dM A) ∧ Rect m w A ∧ 0 < m ∧ m ≤ 100 ∧ 0 < w ∧ w ≤ 100 ∧ e ≤ 66900000 ∧ EOk e m w A Res ∧
  ∀ H' top lef s L G R, Same H0 H' → Res top lef s L G R → EqOn K C H' x lef s w L G R → Q .non H'
theorem ok_Equations_init {f : Addr} {fd : FuncData} (F : Df K "__init__" "Equations.__init__" s_Equations_init f fd) (c : ECl K C) (T : Bn mg) (h_identity : Fn P w K mg base 41 "identity" ["many"] spId)
    (h_hermite_of : Fn P w K mg base 44 "hermite_of" ["rows"] (spHe K)) (h_smith_of : Fn P w K mg base 45 "smith_of" ["rows"] (spSmi K)) :
    FnOk P w K mg base CX0 46 f fd ["self", "rows"] (spEI K C) := by
  refine body_ok F sc_Equations_init (fun vs H Q E h => by obtain ⟨x, dx, v, M, m, w, e, H0, Res, rfl, _⟩ := h; rfl) (fun cdv A outer s H vs Q E hr h => ?_)
  obtain ⟨x, dx, v, A, m, n, e, H0, Res, rfl, hx0, s0, hx, hv, R, h0, hm, hn0, hn, he, ⟨P1, hF, hk⟩, fin⟩ := h
  refine ⟨_, (pss_cons (ps_asg (pe_fn h_hermite_of (hr.mono (by decide)) (by rfl) (pa_cons (pv 1) pa_nil)) (tupG (K := K) (n := 2) rfl rfl (pgs_cons (fldG (K := K) rfl (pv 0)) (pgs_cons (pg_name (i := 2) sc_Equations_init.nd rfl (Or.inl rfl) (Or.inr rfl)) pgs_nil)) rfl rfl))
      (pss_cons (ps_fld (pv 0) (pe_callB (lenS (K := K) rfl) (by rfl) T.len (by decide +kernel) (pa_cons (pe_lc (own := [("row", 3)]) (by rfl) sc_Equations_init.nd (piL (K := K) rfl (pv 2)) (blkOk_by (N := ["self", "rows", "middle", "row", "item"]) (sc := defScope s_Equations_init) (own := [("row", 3)]) (by decide +kernel)) (fun _ _ _ _ _ => (pg_name (i := 3) sc_Equations_init.nd rfl (Or.inl rfl) (Or.inr rfl))) (fun _ _ _ _ _ => (pts_one (pt_val (pe_callB (anyK (K := K) rfl rfl) (by rfl) T.any (by decide +kernel) (pa_cons (pe_lc (own := [("item", 4)]) (by rfl) sc_Equations_init.nd (piL (K := K) rfl (pv 3)) (blkOk_by (own := [("item", 4)]) (by kernel_rfl)) (fun _ _ _ _ _ => (pg_name (i := 4) sc_Equations_init.nd rfl (Or.inl rfl) (Or.inr rfl))) (fun _ _ _ _ _ => pts_nil) (fun _ _ _ _ _ => (pe_cmpR op_ne (pv 4) pe_int (nomark _)))) pa_nil))))) (fun _ _ _ _ _ => pe_int)) pa_nil)) rfl)
      (pss_cons (ps_fld (pv 0) (pe_callB (lenS (K := K) rfl) (by rfl) T.len (by decide +kernel) (pa_cons (pe_ix (ixL (K := K) rfl) (pv 1) pe_int (fun _ _ => rfl)) pa_nil)) rfl)
      (pss_one (ps_fld (pv 0) (pe_ifExp (pt_cmpR op_gt (fldK (K := K) rfl (pv 0) rfl) pe_int (nomark _)) (pe_fn h_smith_of (hr.mono (by decide)) (by rfl) (pa_cons (pe_slice (slL (K := K) rfl) (pv 2) po_none (po_some (fldK (K := K) rfl (pv 0) rfl))) pa_nil)) (pe_tup (pa_cons (pe_lst pa_nil) (pa_cons (pe_lst pa_nil) (pa_cons (pe_fn h_identity (hr.mono (by decide)) (by rfl) (pa_cons (fldK (K := K) rfl (pv 0) rfl) pa_nil)) pa_nil))))) rfl))))), ?_⟩
  refine ⟨_, rfl, ?_⟩
  refine ⟨v, A, m, n, e, P1, rfl, Dp.up s0 _ hv, R, h0, by omega, by omega, he, hF, fun sz M H1 p l d s1 hP R1 np hp dl dd => ?_⟩
  obtain ⟨hk1, hk2⟩ := hk sz M hP R1
  have rT := topOf_rect R1
  revert hk1 hk2 dd rT dl
  generalize lefOf n M = lef
  generalize topOf n M = top
  intro dl dd hk1 hk2 rT
  have gx : H x ≠ none := fun z => nomatch hx.symm.trans z
  have hx1 := s1 _ _ hx
  have s01 := s0.trans s1
  refine ⟨p, [l, d], rfl, sqT hp, rfl, ?_⟩
  refine ⟨_, _, rfl, _, rfl, x, C, dx, _, rfl, hx1, c.cls, c.lefts, by decide, ?_⟩
  have s2 := same_mut (o := .ins C dx (putF "lefts" l [])) s01 hx0
  have hx2 : upd H1 x (.ins C dx (putF "lefts" l [])) x = some (.ins C dx [("lefts", l)]) := upd_same
  have dl2 := Dp.up (nw_updx (o := .ins C dx (putF "lefts" l [])) gx) _ dl
  have dd2 := Dp.up (nw_updx (o := .ins C dx (putF "lefts" l [])) gx) _ dd
  have fr2 : ∀ q, upd H1 x (.ins C dx (putF "lefts" l [])) q = none → H q = none := fun q h => s1.free (upd_free h)
  revert s2 hx2 dl2 dd2 fr2
  generalize upd H1 x (.ins C dx (putF "lefts" l [])) = H2
  intro s2 hx2 dl2 dd2 fr2
  refine ⟨_, _, rfl, rfl, ?_⟩
  -- rank
  have dd' := Dp.up (nw_le (eH_same _)) _ dd2
  obtain ⟨a, xs, rfl, hS, hl, hrow⟩ := get_rows dd'
  have lT : top.length = m := rT.1
  refine ⟨_, rfl, a, rfl, ⟨xs, hS⟩, fun D hD => ?_⟩
  refine lc_keep (n := xs.length) walk_list hD (fun i => nz (top.getD i [])) (fun i v _ => v = .int 1) (fun _ _ _ _ _ z => z) (by omega) (fun _ s4 => s4.seq hS) ?_ ?_
  · rintro i y H4 H5 hi s4 hD4 ⟨rfl, ex⟩ N F gN gF
    obtain ⟨p, gp, qp⟩ := hrow i _ (getD_at (M := top) (i := i) (by omega))
    cases ex.symm.trans gp
    refine ⟨rfl, ?_⟩
    refine ⟨_, rfl, p, rfl, ⟨_, s4.seq qp⟩, fun D2 hD2 => ?_⟩
    refine lc_map walk_list hD2 (fun j v _ => ∃ u, (top.getD i [])[j]? = some u ∧ v = .bl (u != 0)) (fun _ _ _ _ _ z => z) (by rw [List.length_map, rT.row (by omega)]; omega) (fun _ s5 => s5.seq (s4.seq qp)) ?_ ?_
    · rintro j x H6 H7 hj s6 hD6 ⟨rfl, ey⟩ N2 go2
      obtain ⟨u, hu, rfl⟩ := iv_get ey
      refine ⟨rfl, _, rfl, rfl, go2 _ _ (Same.refl _) ⟨u, hu, ?_⟩⟩
      rw [dec_int]
      rfl
    · intro H6 bs s6 f1 f2 f3
      have eb : bs = ((top.getD i []).map fun u => u != 0).map V.bl := ext_of (by rw [f2]; simp) fun j y z hy hz => by
        obtain ⟨u, hu, rfl⟩ := f3 j y hy
        rw [List.getElem?_map, List.getElem?_map, hu] at hz
        exact Option.some.inj hz
      refine ⟨D2, _, rfl, sqL (by rw [f1, eb]), ?_⟩
      have ea : (((top.getD i []).map fun u => u != 0).any id) = nz (top.getD i []) := by
        unfold nz
        rw [List.any_map]
        rfl
      rw [ea]
      refine ⟨_, rfl, ?_⟩
      cases q : nz (top.getD i []) with
      | false => exact gF q _ s6
      | true => exact gN q _ _ s6 rfl
  intro H3 ys s3 f1 f2 f3
  have hx3 := s3 _ _ hx2
  have lc : ys.length = (top.filter nz).length := by
    have := congrArg List.length (filter_rows (M := top) nz)
    rw [List.length_map] at this
    rw [f2, hl, this]
  refine ⟨D, ys, rfl, .inl (sqL f1), _, rfl, x, C, dx, _, rfl, hx3, c.cls, c.rank, by show 1 < 1000; decide, ?_⟩
  rw [lc]
  have ls : (top.filter nz).length ≤ m := by rw [← lT]; exact List.length_filter_le _ _
  revert hk1 hk2 ls
  generalize (top.filter nz).length = sN
  intro hk1 hk2 ls
  have s4 := same_mut (o := .ins C dx (putF "rank" (.int (sN : Int)) [("lefts", l)])) (s2.trans s3) hx0
  have hx4 : upd H3 x (.ins C dx (putF "rank" (.int (sN : Int)) [("lefts", l)])) x = some (.ins C dx [("lefts", l), ("rank", .int (sN : Int))]) := by
    rw [upd_same]; rfl
  have dl4 := Dp.up (nw_updx (o := .ins C dx (putF "rank" (.int (sN : Int)) [("lefts", l)])) gx) _ (Dp.up (nw_mono s3) _ dl2)
  have dd4 := Dp.up (nw_updx (o := .ins C dx (putF "rank" (.int (sN : Int)) [("lefts", l)])) gx) _ (Dp.up (nw_mono s3) _ dd2)
  have fr4 : ∀ q, upd H3 x (.ins C dx (putF "rank" (.int (sN : Int)) [("lefts", l)])) q = none → H q = none := fun q h => fr2 q (s3.free (upd_free h))
  revert s4 hx4 dl4 dd4 fr4
  generalize upd H3 x (.ins C dx (putF "rank" (.int (sN : Int)) [("lefts", l)])) = H4
  intro s4 hx4 dl4 dd4 fr4
  -- wide
  obtain ⟨b, zs, rfl, hSb, lz, zrow⟩ := get_rows hv
  have lA : A.length = m := R.1
  obtain ⟨p0, g0, q0⟩ := zrow 0 A[0] (List.getElem?_eq_getElem (by omega))
  have l0 : A[0].length = n := R.2 _ (List.getElem_mem (by omega))
  refine ⟨_, rfl, b, zs, 0, _, rfl, rfl, s4.seq hSb, atI_nat (j := 0) g0, p0, _, rfl, .inl (s4.seq q0), _, rfl, x, C, dx, _, rfl, hx4, c.cls, c.wide, by show 2 < 1000; decide, ?_⟩
  rw [List.length_map, l0]
  have s5 := same_mut (o := .ins C dx (putF "wide" (.int (n : Int)) [("lefts", l), ("rank", .int (sN : Int))])) s4 hx0
  have hx5 : upd H4 x (.ins C dx (putF "wide" (.int (n : Int)) [("lefts", l), ("rank", .int (sN : Int))])) x = some (.ins C dx [("lefts", l), ("rank", .int (sN : Int)), ("wide", .int (n : Int))]) := by
    rw [upd_same]; rfl
  have dl5 := Dp.up (nw_updx (o := .ins C dx (putF "wide" (.int (n : Int)) [("lefts", l), ("rank", .int (sN : Int))])) gx) _ dl4
  have dd5 := Dp.up (nw_updx (o := .ins C dx (putF "wide" (.int (n : Int)) [("lefts", l), ("rank", .int (sN : Int))])) gx) _ dd4
  have fr5 : ∀ q, upd H4 x (.ins C dx (putF "wide" (.int (n : Int)) [("lefts", l), ("rank", .int (sN : Int))])) q = none → H q = none := fun q h => fr4 q (upd_free h)
  revert s5 hx5 dl5 dd5 fr5
  generalize upd H4 x (.ins C dx (putF "wide" (.int (n : Int)) [("lefts", l), ("rank", .int (sN : Int))])) = H5
  intro s5 hx5 dl5 dd5 fr5
  -- forms
  refine ⟨_, rfl, x, C, dx, _, _, rfl, hx5, c.cls, c.rank, rfl, _, _, rfl, rfl, _, rfl, ?_⟩
  have fini : ∀ (H6 : Hp) (p : Addr) (a b c' : V) (L G R' : Mat), Same H5 H6 → H6 p = some (.tup [a, b, c']) → p ≠ x → Dp K (nw eH H H6) a (dM L) → Dp K (nw eH H H6) b (dM G) → Dp K (nw eH H H6) c' (dM R') → Res top lef sN L G R' →
      Q .non (upd H6 x (.ins C dx (putF "forms" (.ref p) [("lefts", l), ("rank", .int (sN : Int)), ("wide", .int (n : Int))]))) := fun H6 p a b c' L G R' s6 hp nx da db dc hR => by
    refine fin _ top lef sN L G R' (same_mut (s5.trans s6) hx0) hR ⟨dx, p, l, a, b, c', by rw [upd_same]; rfl, ?_, by rw [upd_ne nx]; exact hp, ?_, ?_, ?_⟩
    · exact Dp.up (nw_le (eH_same _)) _ (Dp.up (nw_updx gx) _ (Dp.up (nw_mono s6) _ dl5))
    · exact Dp.up (nw_le (eH_same _)) _ (Dp.up (nw_updx gx) _ da)
    · exact Dp.up (nw_le (eH_same _)) _ (Dp.up (nw_updx gx) _ db)
    · exact Dp.up (nw_le (eH_same _)) _ (Dp.up (nw_updx gx) _ dc)
  have gH5 := fr5
  by_cases hs0 : (0 : Int) < (sN : Int)
  · rw [decide_eq_true hs0]
    obtain ⟨hsn, P2, hM, hW⟩ := hk2 (by omega)
    have d5 := Dp.up (nw_le (eH_same _)) _ dd5
    obtain ⟨a', xs5, e5, hS5, hl5, hrow5⟩ := get_rows d5
    cases e5
    refine ⟨_, rfl, _, rfl, x, C, dx, _, _, rfl, hx5, c.cls, c.rank, rfl, _, rfl, a, xs5, rfl, hS5, fun Z hZ => ?_⟩
    rw [cut_take (by omega)]
    have sZ := same_new (o := .lst (xs5.take sN)) hZ
    have dZ : Dp K (upd H5 Z (.lst (xs5.take sN))) (.ref Z) (dM (top.take sN)) := .lst (sqL upd_same) (DpAll.of (by rw [List.length_take, List.length_map, List.length_take, hl5]) fun j v d hv hd => by
      rw [List.getElem?_map] at hd
      obtain ⟨r', hr', rfl⟩ := Option.map_eq_some_iff.mp hd
      have hj : j < sN := by
        have := (List.getElem?_eq_some_iff.mp hv).1
        rw [List.length_take] at this
        omega
      rw [List.getElem?_take, if_pos hj] at hv hr'
      obtain ⟨p', g1, g2⟩ := hrow5 _ _ hr'
      cases g1.symm.trans hv
      exact .lst (sZ.seq g2) (DpAll.ints _))
    revert sZ dZ
    generalize upd H5 Z (.lst (xs5.take sN)) = H6
    intro sZ dZ
    refine ⟨_, top.take sN, sN, n, e, P2, rfl, RowsS.list dZ, ⟨by rw [List.length_take]; omega, fun r hr => rT.2 r (List.mem_of_mem_take hr)⟩, by omega, hsn, by omega, he, hM, fun W H7 p' l' g' r' s7 hWR hP2 np' hp' dl' dg' dr' => ?_⟩
    have hx7 := s7 _ _ (sZ _ _ hx5)
    refine ⟨_, rfl, x, C, dx, _, rfl, hx7, c.cls, c.forms, by show 3 < 1000; decide, ?_⟩
    have up : ∀ b o, nw eH H6 H7 b = some o → nw eH H H7 b = some o := fun b o e => by
      cases q : H6 b with
      | none =>
        rw [nw_new q] at e
        rw [nw_new (gH5 b (sZ.free q))]
        exact e
      | some v => rw [nw_old q] at e; cases e
    exact fini H7 p' l' g' r' _ _ _ (sZ.trans s7) hp' (fun z => by rw [z] at np'; rw [sZ _ _ hx5] at np'; cases np') (Dp.up up _ dl') (Dp.up up _ dg') (Dp.up up _ dr') (hW W hP2 hWR)
  · rw [decide_eq_false hs0]
    have e0 : sN = 0 := by omega
    have hR := hk1 e0
    refine ⟨by show 0 ≤ sizeLine; decide, fun z1 hz1 => ⟨by show 0 ≤ sizeLine; decide, fun z2 hz2 => ?_⟩⟩
    have t1 := same_new (o := .lst []) hz1
    have t2 := same_new (o := .lst []) hz2
    have c1 : upd (upd H5 z1 (.lst [])) z2 (.lst []) z1 = some (.lst []) := t2 _ _ upd_same
    have c2 : upd (upd H5 z1 (.lst [])) z2 (.lst []) z2 = some (.lst []) := upd_same
    have n2 := t1.free hz2
    have t12 := t1.trans t2
    revert t12 c1 c2
    generalize upd (upd H5 z1 (.lst [])) z2 (.lst []) = H6
    intro c1 c2 t12
    have hx6 := t12 _ _ hx5
    refine ⟨_, rfl, x, C, dx, _, _, rfl, hx6, c.cls, c.wide, rfl, n, rfl, by omega, fun I H7 s7 hN => ⟨by show 3 ≤ sizeLine; decide, fun pt hpt => ?_⟩⟩
    have sp := same_new (o := .tup [.ref z1, .ref z2, .ref I]) hpt
    have hx8 := sp _ _ (s7 _ _ hx6)
    refine ⟨_, rfl, x, C, dx, _, rfl, hx8, c.cls, c.forms, by show 3 < 1000; decide, ?_⟩
    have dI' := NewM.dp (K := K) hN
    refine fini _ pt _ _ _ [] [] (idm n) (t12.trans (s7.trans sp)) upd_same (ne_of_none (s7 _ _ hx6) hpt).symm ?_ ?_ ?_ (e0 ▸ hR)
    · exact .lst (sqL (by rw [nw_new (gH5 _ hz1)]; exact sp _ _ (s7 _ _ c1))) .nil
    · exact .lst (sqL (by rw [nw_new (gH5 _ n2)]; exact sp _ _ (s7 _ _ c2))) .nil
    · refine Dp.up (fun b o e => ?_) _ dI'
      cases q : H6 b with
      | none =>
        rw [nw_new q] at e
        rw [nw_new (gH5 b (t12.free q))]
        exact sp _ _ e
      | some v => rw [nw_old q] at e; cases e
end
end K51W

set_option maxHeartbeats 200000
/-! Equations.left_over, Equations.answer_to. -/
namespace K51W
open PySem PySem.Spec PyProof.Rows L2 K51
abbrev dRT (rs : List Rat) : PyData := .tuple (rs.map dR)
section
variable {P : Program} {w : World} {K : PySem.W.Frag} {mg : Str → Option Value} {base : Heap} {C : Addr}
theorem EqOn.same {H H' : Hp} {x : Addr} {lef L G R : Mat} {s w : Nat} (h : EqOn K C H x lef s w L G R) (e : Same H H') : EqOn K C H' x lef s w L G R := by
  obtain ⟨dx, p, vl, a, b, c, h1, h2, h3, h4, h5, h6⟩ := h
  exact ⟨dx, p, vl, a, b, c, e _ _ h1, Dp.up e _ h2, e _ _ h3, Dp.up e _ h4, Dp.up e _ h5, Dp.up e _ h6⟩
def spLO (K : PySem.W.Frag) (C : Addr) : Sp := fun vs H Q _ => ∃ (x : Addr) (u : V) (lef : Mat) (s m w : Nat) (L G R : Mat) (ss : List Rat), vs = [.ref x, u, .bl false] ∧ EqOn K C H x lef s w L G R ∧ Dp K H u (dRs ss) ∧ ss.length = m ∧ Rect m m lef ∧ s ≤ m ∧ m ≤ 100 ∧
  ((∀ k, s ≤ k → k < m → ss.getD k 0 = 0) → ∀ H', Same H H' → Q .non H') ∧
  ∀ k, s ≤ k → k < m → ss.getD k 0 ≠ 0 → ∀ p H', Same H H' → Dp K (nw eH H H') (.ref p) (dRT (rr (lef.getD k []))) → Q (.ref p) H'
theorem ok_left_over {f : Addr} {fd : FuncData} (F : Df K "left_over" "Equations.left_over" s_Equations_left_over f fd) (c : ECl K C) (T : Bn mg) (h_over : Fn P w K mg base 43 "over" ["one", "two"] (spOver K)) (h_times : Fn P w K mg base 43 "times" ["one", "two"] (spTimes K)) :
    FnOk P w K mg base CX0 44 f fd ["self", "sides", "whole"] (spLO K C) := by
  refine body_ok F sc_Equations_left_over (fun vs H Q E h => by obtain ⟨x, u, lef, s, m, w, L, G, R, ss, rfl, _⟩ := h; rfl) (fun cdv A outer s H vs Q E hr h => ?_)
  obtain ⟨x, u, lef, s, m, n, L, G, R, ss, rfl, EO, du, lss, Rl, hsm, hm, fin1, fin2⟩ := h
  obtain ⟨dx, p, vl, a, b, c', hx, dl, hp, dL, dG, dR'⟩ := EO
  refine ⟨_, (pss_cons (ps_for PassesOwn.never rfl (pi_range2 (by rfl) T.range (pa_cons (fldK (K := K) rfl (pv 0) rfl) (pa_cons (pe_callB (lenS (K := K) rfl) (by rfl) T.len (by decide +kernel) (pa_cons (pv 1) pa_nil)) pa_nil))) (pg_name (i := 3) sc_Equations_left_over.nd rfl (Or.inl rfl) (Or.inr rfl))
      (pss_one (ps_if (pt_cmpR op_ne (pe_ix (ixT (K := K) rfl) (pe_ix (ixL (K := K) rfl) (pv 1) (pv 3) (fun _ _ => rfl)) pe_int (fun _ _ => rfl)) pe_int (nomark _)) (pss_cons (ps_set (i := 4) sc_Equations_left_over.nd rfl (Or.inr rfl) (pe_ifExp (pt_truth (pv 2) (by intro _; rfl)) (pe_fn h_over (hr.mono (by decide)) (by rfl) (pa_cons (pe_tup (pa_cons pe_int (pa_cons pe_int pa_nil))) (pa_cons (pe_ix (ixL (K := K) rfl) (pv 1) (pv 3) (fun _ _ => rfl)) pa_nil))) (pe_tup (pa_cons pe_int (pa_cons pe_int pa_nil)))))
      (pss_one (ps_ret (pe_callTy (tupO (K := K) rfl) (by rfl) T.tuple (by decide +kernel) (pa_cons (pe_lc (own := [("item", 5)]) (by rfl) sc_Equations_left_over.nd (piL (K := K) rfl (pe_ix (ixL (K := K) rfl) (fldK (K := K) rfl (pv 0) rfl) (pv 3) (fun _ _ => rfl))) (blkOk_by (N := ["self", "sides", "whole", "k", "by", "item"]) (sc := defScope s_Equations_left_over) (own := [("item", 5)]) (by decide +kernel)) (fun _ _ _ _ _ => (pg_name (i := 5) sc_Equations_left_over.nd rfl (Or.inl rfl) (Or.inr rfl))) (fun _ _ _ _ _ => pts_nil) (fun _ _ _ _ _ => (pe_fn h_times (hr.mono (by decide)) (by rfl) (pa_cons (pe_tup (pa_cons (pv 5) (pa_cons pe_int pa_nil))) (pa_cons (pv 4) pa_nil))))) pa_nil))))) pss_nil)))
      (pss_one (ps_ret pe_non))), ?_⟩
  obtain ⟨a2, xs2, rfl, hS2, d2⟩ := Dp.lstI du
  have l2 : xs2.length = m := by rw [DpAll.len d2, List.length_map, lss]
  obtain ⟨a3, xs3, rfl, hS3, l3, row3⟩ := get_rows dl
  have lL : lef.length = m := Rl.1
  refine ⟨_, rfl, x, C, dx, _, _, rfl, hx, c.cls, c.rank, rfl, _, rfl, a2, xs2, rfl, .inl hS2, _, _, rfl, by omega, ?_⟩
  rw [l2]
  refine for_it walk_range (fun i σ H' => ∃ y3, σ = [some (.ref x), some (.ref a2), some (.bl false), y3, none, none] ∧ Same H H' ∧ ∀ k, s ≤ k → k < s + i → ss.getD k 0 = 0) ⟨none, rfl, Same.refl _, fun k h1 h2 => by omega⟩ (fun _ _ _ _ _ => trivial) ?_ ?_
  · rintro i xv σ H1 H2 hi ⟨y3, rfl, s1, hz⟩ ⟨rfl, rfl⟩
    have him : s + i < m := by omega
    have ei : (s : Int) + (i : Int) = ((s + i : Nat) : Int) := by omega
    obtain ⟨xk, hk⟩ : ∃ xk, xs2[s + i]? = some xk := ⟨_, List.getElem?_eq_getElem (by omega)⟩
    obtain ⟨r, q, hr1, rfl, hq⟩ := rats_get d2 hk
    have gr : ss.getD (s + i) 0 = r := by simp [List.getD_eq_getElem?_getD, hr1]
    refine ⟨_, rfl, _, rfl, a2, xs2, _, _, rfl, rfl, s1.seq hS2, at_of ei hk, q, _, _, _, rfl, rfl, Same.seqT s1 hq, at0 r, rfl, _, rfl, ?_⟩
    by_cases e0 : r.num = 0
    · rw [decide_eq_true (congrArg V.int e0)]
      refine ⟨_, rfl, s1, fun k h1 h2 => ?_⟩
      by_cases e : k = s + i
      · rw [e, gr]; exact Rat.num_eq_zero.mp e0
      · exact hz k h1 (by omega)
    · rw [decide_eq_false (fun h => e0 (V.int.inj h))]
      refine ⟨_, rfl, _, rfl, by show 2 ≤ sizeLine; decide, fun pb hpb => ?_⟩
      have sb := same_new (o := .tup [.int 1, .int 1]) hpb
      have hb : SqT K (upd H2 pb (.tup [.int 1, .int 1])) pb (rp ((1 : Int) : Rat)) := sqT upd_same
      revert sb hb
      generalize upd H2 pb (.tup [.int 1, .int 1]) = H3
      intro sb hb
      have s3 := s1.trans sb
      obtain ⟨p', gp, qp⟩ := row3 (s + i) _ (getD_at (by rw [lL]; exact him))
      have lr : (lef.getD (s + i) []).length = m := Rl.row him
      refine ⟨_, rfl, x, C, dx, _, _, rfl, s3 _ _ hx, c.cls, c.lefts, rfl, _, rfl, a3, xs3, _, _, rfl, rfl, s3.seq hS3, at_of ei gp, p', rfl, ⟨_, s3.seq qp⟩, fun D hD => ?_⟩
      refine lc_map walk_list hD (fun j v G => ∃ u, (lef.getD (s + i) [])[j]? = some u ∧ Dp K (nw eH H G) v (dR (u : Rat))) (fun j v G G' s ⟨u, h1, d⟩ => ⟨u, h1, Dp.up (nw_mono s) _ d⟩) (by rw [List.length_map, lr]; omega) (fun _ s5 => s5.seq (s3.seq qp)) ?_ ?_
      · rintro j y H5 H6 hj s5 hD5 ⟨rfl, ey⟩ N go
        obtain ⟨u, hu, rfl⟩ := iv_get ey
        refine ⟨rfl, _, rfl, by show 2 ≤ sizeLine; decide, fun T0 hT0 => ?_⟩
        have sT := same_new (o := .tup [.int u, .int 1]) hT0
        refine ⟨_, rfl, T0, pb, (u : Rat), ((1 : Int) : Rat), rfl, sqT upd_same, Same.seqT (s5.trans sT) hb, .inr (.inl (by show (1 : Int).natAbs < 2 ^ 64; decide)), .inl (by show (1 : Int).natAbs < 2 ^ 64; decide), fun p' H7 s7 np' hp' => ?_⟩
        refine go _ _ (sT.trans s7) ⟨u, hu, ?_⟩
        have h1 : (u : Rat) * ((1 : Int) : Rat) = u := by rw [Rat.intCast_one, Rat.mul_one]
        rw [h1] at hp'
        have fp' : H6 p' = none := sT.free np'
        refine mk_rat ((s3.trans s5).free fp') ?_
        rw [wo_at (ne_new hD5 fp')]
        exact hp'
      · intro H4 ys s4 f1 f2 f3
        refine ⟨D, ys, rfl, .inl ⟨sqL f1, fun Z hZ => ?_⟩⟩
        have sF := s3.trans s4
        refine fin2 (s + i) (by omega) him (by rw [gr]; exact fun z => e0 (Rat.num_eq_zero.mpr z)) _ _ (sF.trans (same_new hZ)) (.tup (sqT (by rw [nw_new (sF.free hZ)]; exact upd_same)) (DpAll.of (by rw [f2]; simp) fun j v d hv hd => ?_))
        obtain ⟨u, hu, du⟩ := f3 j v hv
        rw [List.getElem?_map, List.getElem?_map, hu] at hd
        cases hd
        exact Dp.up (nw_mono (wo_le.trans (same_new hZ))) _ du
  · rintro σ H1 ⟨y3, rfl, s1, hz⟩
    exact fin1 (fun k h1 h2 => hz k h1 (by omega)) _ s1
end
end K51W

set_option maxHeartbeats 200000
/-! Equations.answer_to. -/
namespace K51W
open PySem PySem.Spec PyProof.Rows L2 K51
section
variable {K : PySem.W.Frag} {g : TG} {te : TE} {vs : List Nat} {σ : Sto} {H1 : Hp} {D p : Addr} {r : List Int} {Qd : Hp → Prop}
/-- [(item, 1) for item in row] -/
theorem lc_pairs (hS : SqL K H1 p (iv r)) (hD : H1 D = none) (hn : r.length ≤ 1000)
    (hs : ∀ (u : Int) (H : Hp) (N : V → Hp → Prop), (∀ T, H T = none → N (.ref T) (upd H T (.tup [.int u, .int 1]))) → g (.int u) (wipe σ vs) H fun σ2 H2 => wipe σ2 vs = wipe σ vs ∧ te σ2 H2 N)
    (hd : ∀ H, Same H1 H → Dp K (nw eH H1 H) (.ref D) (dRs (rr r)) → Qd H) :
    ∃ W : Nat → Nat → Hp → Prop, (∃ m, W 0 m (upd H1 D (.lst []))) ∧ ∀ i m H, W i m H →
      ((Itl K p).stop i H ∧ Qd H) ∨ ((Itl K p).go i H ∧ ∃ Nx : Hp → Prop, (∀ H', Nx H' → ∃ m', m' < m ∧ W (i + 1) m' H') ∧ ∀ x H', (Itl K p).yld i H x H' → g x (wipe σ vs) H' fun σ2 H2 => wipe σ2 vs = wipe σ vs ∧ tYes σ2 H2 fun b H3 =>
        if b = true then te σ2 H3 fun y H4 => ∃ acc, H4 D = some (.lst acc) ∧ acc.length < sizeLine ∧ Nx (upd H4 D (.lst (acc ++ [y]))) else Nx H3) := by
  refine lc_map walk_list hD (fun j v G => ∃ u, r[j]? = some u ∧ Dp K (nw eH H1 G) v (dR (u : Rat))) (fun j v G G' s ⟨u, h1, d⟩ => ⟨u, h1, Dp.up (nw_mono s) _ d⟩) (by rw [List.length_map]; omega) (fun _ s5 => s5.seq hS) ?_ ?_
  · rintro j y H5 H6 hj s5 hD5 ⟨rfl, ey⟩ N go
    obtain ⟨u, hu, rfl⟩ := iv_get ey
    refine hs u _ _ fun T hT => go _ _ (same_new hT) ⟨u, hu, ?_⟩
    refine mk_rat (s5.free hT) ?_
    rw [wo_at (ne_new hD5 hT), upd_same]
    rfl
  · intro H4 ys s4 f1 f2 f3
    refine hd _ s4 (.lst (sqL (by rw [nw_new hD]; exact f1)) (DpAll.of (by rw [f2]; simp) fun j v d hv hd => ?_))
    obtain ⟨u, hu, du⟩ := f3 j v hv
    rw [List.getElem?_map, List.getElem?_map, hu] at hd
    cases hd
    exact Dp.up (nw_mono wo_le) _ du
end
theorem DpAll.snoc {K : PySem.W.Frag} {H : Hp} {v : V} {d : PyData} (q : Dp K H v d) : ∀ {xs : List V} {ds : List PyData}, DpAll K H xs ds → DpAll K H (xs ++ [v]) (ds ++ [d])
  | _, _, .nil => .cons q .nil
  | _, _, .cons h r => .cons h (DpAll.snoc q r)
section
variable {P : Program} {w : World} {K : PySem.W.Frag} {mg : Str → Option Value} {base : Heap} {C : Addr}
def spAT (K : PySem.W.Frag) (C : Addr) : Sp := fun vs H Q _ => ∃ (x : Addr) (u : V) (lef : Mat) (s m w : Nat) (L G R : Mat) (b : List Rat), vs = [.ref x, u, .bl false] ∧ EqOn K C H x lef s w L G R ∧ Dp K H u (dRs b) ∧ AOk lef s m w L G R b ∧
  ((∀ k, s ≤ k → k < m → (sidesOf lef m b).getD k 0 = 0) → ∀ p v H', Same H H' → H p = none → H' p = some (.tup [v, .non]) → Dp K (nw eH H H') v (dRT (spotOf R s w (valsOf L G s (sidesOf lef m b)))) → Q (.ref p) H') ∧
  ∀ k, s ≤ k → k < m → (sidesOf lef m b).getD k 0 ≠ 0 → ∀ p v H', Same H H' → H p = none → H' p = some (.tup [.non, v]) → Dp K (nw eH H H') v (dRT (rr (lef.getD k []))) → Q (.ref p) H'
theorem ok_answer_to {f : Addr} {fd : FuncData} (F : Df K "answer_to" "Equations.answer_to" s_Equations_answer_to f fd) (c : ECl K C) (T : Bn mg) (h_over : Fn P w K mg base 43 "over" ["one", "two"] (spOver K)) (h_dot : Fn P w K mg base 44 "dot" ["row", "other"] (spDot K))
    (m_left_over : Md P w K mg base 44 C "left_over" ["self", "sides", "whole"] (spLO K C)) :
    FnOk P w K mg base CX0 45 f fd ["self", "right", "whole"] (spAT K C) := by
  have c_Equations := c.cls
  refine body_ok F sc_Equations_answer_to (fun vs H Q E h => by obtain ⟨x, u, lef, s, m, w, L, G, R, ss, rfl, _⟩ := h; rfl) (fun cdv A outer s H vs Q E hr h => ?_)
  obtain ⟨x, u, lef, s, m, n, L, G, R, b, rfl, EO, du, ok, fin1, fin2⟩ := h
  obtain ⟨dx, p, vl, a, b', c', hx, dl, hp, dL, dG, dR'⟩ := EO
  refine ⟨_, (pss_cons (ps_setLc (i := 3) (own := [("row", 5)]) (by rfl) sc_Equations_answer_to.nd rfl rfl (sw_true rfl rfl rfl (by decide +kernel)) (piL (K := K) rfl (fldK (K := K) rfl (pv 0) rfl)) (blkOk_by (N := ["self", "right", "whole", "sides", "item", "row", "weights", "left", "middle", "other", "found", "k", "value"]) (sc := defScope s_Equations_answer_to) (own := [("row", 5)]) (by decide +kernel)) (fun _ _ _ _ _ => (pg_name (i := 5) sc_Equations_answer_to.nd rfl (Or.inl rfl) (Or.inr rfl))) (fun _ _ _ _ _ => pts_nil) (fun _ _ _ _ _ => (pe_fn h_dot (hr.mono (by decide)) (by rfl) (pa_cons (pe_lc (own := [("item", 4)]) (by rfl) sc_Equations_answer_to.nd (piL (K := K) rfl (pv 5)) (blkOk_by (own := [("item", 4)]) (by kernel_rfl)) (fun _ _ _ _ _ => (pg_name (i := 4) sc_Equations_answer_to.nd rfl (Or.inl rfl) (Or.inr rfl))) (fun _ _ _ _ _ => pts_nil) (fun _ _ _ _ _ => (pe_tup (pa_cons (pv 4) (pa_cons pe_int pa_nil))))) (pa_cons (pv 1) pa_nil)))))
      (pss_cons (ps_set (i := 6) sc_Equations_answer_to.nd rfl (Or.inl rfl) (pe_md m_left_over c_Equations (hr.mono (by decide)) (pv 0) (pa_cons (pv 3) (pa_cons (pv 2) pa_nil))))
      (pss_cons (ps_if (pt_cmp (pc_notN (pv 6))) (pss_one (ps_ret (pe_tup (pa_cons pe_non (pa_cons (pv 6) pa_nil))))) pss_nil)
      (pss_cons (ps_asg (fldK (K := K) rfl (pv 0) rfl) (tupG (K := K) (n := 3) rfl rfl (pgs_cons (pg_name (i := 7) sc_Equations_answer_to.nd rfl (Or.inl rfl) (Or.inr rfl)) (pgs_cons (pg_name (i := 8) sc_Equations_answer_to.nd rfl (Or.inl rfl) (Or.inr rfl)) (pgs_cons (pg_name (i := 9) sc_Equations_answer_to.nd rfl (Or.inl rfl) (Or.inr rfl)) pgs_nil))) rfl rfl))
      (pss_cons (ps_set (i := 10) sc_Equations_answer_to.nd rfl (Or.inr rfl) (pe_lst pa_nil))
      (pss_cons (ps_for PassesOwn.never rfl (pi_range1 (by rfl) T.range (pa_cons (fldK (K := K) rfl (pv 0) rfl) pa_nil)) (pg_name (i := 11) sc_Equations_answer_to.nd rfl (Or.inl rfl) (Or.inr rfl))
      (pss_cons (ps_set (i := 12) sc_Equations_answer_to.nd rfl (Or.inl rfl) (pe_fn h_over (hr.mono (by decide)) (by rfl) (pa_cons (pe_fn h_dot (hr.mono (by decide)) (by rfl) (pa_cons (pe_lc (own := [("item", 4)]) (by rfl) sc_Equations_answer_to.nd (piL (K := K) rfl (pe_ix (ixL (K := K) rfl) (pv 7) (pv 11) (fun _ _ => rfl))) (blkOk_by (N := ["self", "right", "whole", "sides", "item", "row", "weights", "left", "middle", "other", "found", "k", "value"]) (sc := defScope s_Equations_answer_to) (own := [("item", 4)]) (by decide +kernel)) (fun _ _ _ _ _ => (pg_name (i := 4) sc_Equations_answer_to.nd rfl (Or.inl rfl) (Or.inr rfl))) (fun _ _ _ _ _ => pts_nil) (fun _ _ _ _ _ => (pe_tup (pa_cons (pv 4) (pa_cons pe_int pa_nil))))) (pa_cons (pe_slice (slL (K := K) rfl) (pv 3) po_none (po_some (fldK (K := K) rfl (pv 0) rfl))) pa_nil))) (pa_cons (pe_tup (pa_cons (pe_ix (ixL (K := K) rfl) (pe_ix (ixL (K := K) rfl) (pv 8) (pv 11) (fun _ _ => rfl)) (pv 11) (fun _ _ => rfl)) (pa_cons pe_int pa_nil))) pa_nil))))
      (pss_cons (ps_if (PW.pt (pw_and (pt_truth (pv 2) (by intro _; rfl)) (pw_and1 (pt_cmpR op_ne (pe_ix (ixT (K := K) rfl) (pv 12) pe_int (fun _ _ => rfl)) pe_int (nomark _))))) (pss_one (ps_never)) pss_nil)
      (pss_one (ps_expr (pe_bm PySem.F.plainAttrs_list PySem.F.slot_list_append PySem.F.type_list_append mt_append (pv 10) (pa_cons (pv 12) pa_nil)))))))
      (pss_one (ps_ret (pe_tup (pa_cons (pe_callTy (tupO (K := K) rfl) (by rfl) T.tuple (by decide +kernel) (pa_cons (pe_lc (own := [("row", 5)]) (by rfl) sc_Equations_answer_to.nd (piL (K := K) rfl (pv 9)) (blkOk_by (N := ["self", "right", "whole", "sides", "item", "row", "weights", "left", "middle", "other", "found", "k", "value"]) (sc := defScope s_Equations_answer_to) (own := [("row", 5)]) (by decide +kernel)) (fun _ _ _ _ _ => (pg_name (i := 5) sc_Equations_answer_to.nd rfl (Or.inl rfl) (Or.inr rfl))) (fun _ _ _ _ _ => pts_nil) (fun _ _ _ _ _ => (pe_fn h_dot (hr.mono (by decide)) (by rfl) (pa_cons (pe_lc (own := [("item", 4)]) (by rfl) sc_Equations_answer_to.nd (piL (K := K) rfl (pe_slice (slL (K := K) rfl) (pv 5) po_none (po_some (fldK (K := K) rfl (pv 0) rfl)))) (blkOk_by (own := [("item", 4)]) (by kernel_rfl)) (fun _ _ _ _ _ => (pg_name (i := 4) sc_Equations_answer_to.nd rfl (Or.inl rfl) (Or.inr rfl))) (fun _ _ _ _ _ => pts_nil) (fun _ _ _ _ _ => (pe_tup (pa_cons (pv 4) (pa_cons pe_int pa_nil))))) (pa_cons (pv 10) pa_nil))))) pa_nil)) (pa_cons pe_non pa_nil))))))))))), ?_⟩
  obtain ⟨a3, xs3, rfl, hS3, l3, row3⟩ := get_rows dl
  have lL : lef.length = m := ok.rl.1
  have hm := ok.m100
  have hb := ok.lb
  have lsd : (sidesOf lef m b).length = m := by simp [sidesOf]
  -- sides
  refine ⟨_, rfl, x, C, dx, _, _, rfl, hx, c.cls, c.lefts, rfl, a3, rfl, ⟨xs3, hS3⟩, fun D hD => ?_⟩
  refine lc_map walk_list hD (fun i v G => i < m ∧ Dp K (nw eH H G) v (dR (dsum (rr (lef.getD i [])) b m))) (fun i v G G' s d => ⟨d.1, Dp.up (nw_mono s) _ d.2⟩) (by omega) (fun _ s1 => s1.seq hS3) ?_ ?_
  · rintro i y H1 H2 hi s1 hD1 ⟨rfl, ey⟩ N go
    have him : i < m := by omega
    obtain ⟨q, gq, hq⟩ := row3 i _ (getD_at (by rw [lL]; exact him))
    cases gq.symm.trans ey
    have lr : (lef.getD i []).length = m := ok.rl.row him
    refine ⟨rfl, _, rfl, q, rfl, ⟨_, s1.seq hq⟩, fun D2 hD2 => ?_⟩
    refine lc_pairs (s1.seq hq) hD2 (by rw [lr]; omega) (fun u H N go => ⟨rfl, _, rfl, by show 2 ≤ sizeLine; decide, go⟩) fun H3 s3 d3 => ?_
    refine ⟨_, rfl, ?_⟩
    refine ⟨_, _, rr (lef.getD i []), b, rfl, Dp.up (nw_le (eH_same _)) _ d3, Dp.up (s1.trans s3) _ du, by rw [List.length_map, lr, hb], by rw [List.length_map, lr]; omega, ok.f1 i him, fun p' H4 s4 np hp' => ?_⟩
    rw [List.length_map, lr] at hp'
    have fp := s3.free np
    refine go _ _ (s3.trans s4) ⟨him, mk_rat (s1.free fp) ?_⟩
    rw [wo_at (ne_new hD1 fp)]
    exact hp'
  intro H1 ys s1 f1 f2 f3
  have dS : Dp K (nw eH H H1) (.ref D) (dRs (sidesOf lef m b)) := .lst (sqL (by rw [nw_new hD]; exact f1)) (DpAll.of (by rw [f2, List.length_map, lsd, l3, lL]) fun j v d hv hd => by
    obtain ⟨hj, d2⟩ := f3 j v hv
    unfold sidesOf at hd
    rw [List.getElem?_map, List.getElem?_map, List.getElem?_range hj] at hd
    cases hd
    exact Dp.up (nw_mono wo_le) _ d2)
  have dS1 := Dp.up (nw_le (eH_same _)) _ dS
  have hx1 := s1 _ _ hx
  have EO1 : EqOn K C H1 x lef s n L G R := EqOn.same ⟨dx, p, _, a, b', c', hx, dl, hp, dL, dG, dR'⟩ s1
  -- weights
  refine ⟨_, rfl, x, dx, _, rfl, hx1, rfl, _, rfl, _, rfl, ?_⟩
  refine ⟨x, _, lef, s, m, n, L, G, R, sidesOf lef m b, rfl, EO1, dS1, lsd, ok.rl, ok.sm, hm, fun hz H2 s2 => ?_, fun k k1 k2 k3 q H2 s2 d2 => ?_⟩
  · refine ⟨_, rfl, _, rfl, ?_⟩
    dsimp only [if_false, tNext]
    have s12 := s1.trans s2
    have hx2 := s12 _ _ hx
    refine ⟨_, rfl, x, C, dx, _, _, rfl, hx2, c.cls, c.forms, rfl, p, [a, b', c'], rfl, sqT (s12 _ _ hp), rfl, _, _, rfl, _, _, rfl, _, _, rfl, rfl, ?_⟩
    refine ⟨by show 0 ≤ sizeLine; decide, fun F hF => ?_⟩
    have sF := same_new (o := .lst []) hF
    have hF1 : upd H2 F (.lst []) F = some (.lst []) := upd_same
    have fF : H2 F = none := hF
    revert hF1 sF
    generalize upd H2 F (.lst []) = H3
    intro sF hF1
    have hx3 := sF _ _ hx2
    have s23 := s12.trans sF
    obtain ⟨aL, xsL, rfl, hSL, lxL, rowL⟩ := get_rows dL
    obtain ⟨aG, xsG, rfl, hSG, lxG, rowG⟩ := get_rows dG
    obtain ⟨aR, xsR, rfl, hSR, lxR, rowR⟩ := get_rows dR'
    have lLL : L.length = s := ok.rL.1
    have lGG : G.length = s := ok.rG.1
    have lRR : R.length = n := ok.rR.1
    have hsm := ok.sm
    have hsn := ok.sw
    have hn := ok.w100
    obtain ⟨_, xsD, eD, hSD, dD⟩ := Dp.lstI dS1
    cases eD
    have lD : xsD.length = m := by rw [DpAll.len dD, List.length_map, lsd]
    refine ⟨_, rfl, x, C, dx, _, _, rfl, hx3, c.cls, c.rank, rfl, s, rfl, by omega, by omega, ?_⟩
    refine for_it walk_range (fun i σ H' => ∃ y11 y12 fs, σ = [some (.ref x), some u, some (.bl false), some (.ref D), none, none, some .non, some (.ref aL), some (.ref aG), some (.ref aR), some (.ref F), y11, y12] ∧ Same H2 H' ∧
      H' F = some (.lst fs) ∧ DpAll K (wo H' F) fs (((valsOf L G s (sidesOf lef m b)).take i).map dR)) ⟨none, none, [], rfl, sF, hF1, .nil⟩ (fun _ _ _ _ _ => trivial) ?_ ?_
    · rintro i xv σ H4 H5 hi ⟨y11, y12, fs, rfl, s4, hF4, dF4⟩ ⟨rfl, rfl⟩
      have his : i < s := by omega
      have ei : (0 : Int) + (i : Int) = (i : Int) := by omega
      have s14 := s12.trans s4
      have hx4 := s14 _ _ hx
      obtain ⟨gf1, gf2, gf3⟩ := ok.f2 hz i his
      obtain ⟨qL, gL, hqL⟩ := rowL i _ (getD_at (by rw [lLL]; exact his))
      obtain ⟨qG, gG, hqG⟩ := rowG i _ (getD_at (by rw [lGG]; exact his))
      have lrL : (L.getD i []).length = s := ok.rL.row his
      refine ⟨_, rfl, _, rfl, aL, xsL, _, _, rfl, rfl, s14.seq hSL, at_of ei gL, qL, rfl, ⟨_, s14.seq hqL⟩, fun D2 hD2 => ?_⟩
      refine lc_pairs (s14.seq hqL) hD2 (by rw [lrL]; omega) (fun u H N go => ⟨rfl, _, rfl, by show 2 ≤ sizeLine; decide, go⟩) fun H6 s6 d6 => ?_
      have s16 := s14.trans s6
      have hx6 := s16 _ _ hx
      have s46 := s2.trans (s4.trans s6)
      refine ⟨_, rfl, _, rfl, x, C, dx, _, _, rfl, hx6, c.cls, c.rank, rfl, _, rfl, D, xsD, rfl, s46.seq hSD, fun Z hZ => ?_⟩
      rw [cut_take (by rw [lD]; exact hsm)]
      have sZ := same_new (o := .lst (xsD.take s)) hZ
      have dZ : Dp K (upd H6 Z (.lst (xsD.take s))) (.ref Z) (dRs ((sidesOf lef m b).take s)) := .lst (sqL upd_same) (DpAll.of (by rw [List.length_take, List.length_map, List.length_take, lsd, lD]) fun j v d hv hd => by
        rw [List.getElem?_map] at hd
        obtain ⟨r', hr', rfl⟩ := Option.map_eq_some_iff.mp hd
        have hj : j < s := by
          have := (List.getElem?_eq_some_iff.mp hv).1
          rw [List.length_take] at this
          omega
        rw [List.getElem?_take, if_pos hj] at hv hr'
        obtain ⟨v', h1, h2⟩ := DpAll.get (i := j) (d := dR r') dD (by rw [List.getElem?_map, hr']; rfl)
        cases h1.symm.trans hv
        exact Dp.up (s46.trans sZ) _ h2)
      have d6' := Dp.up (nw_le (eH_same _)) _ d6
      have d6'' := Dp.up sZ _ d6'
      revert sZ dZ d6''
      generalize upd H6 Z (.lst (xsD.take s)) = H7
      intro sZ dZ d6''
      refine ⟨_, _, rr (L.getD i []), (sidesOf lef m b).take s, rfl, d6'', dZ, by rw [List.length_map, lrL, List.length_take, lsd]; omega, by rw [List.length_map, lrL]; omega, gf1, fun p1 H8 s8 np1 hp1 => ?_⟩
      rw [List.length_map, lrL] at hp1
      have s68 := s6.trans (sZ.trans s8)
      have s18 := s14.trans s68
      refine ⟨_, rfl, _, rfl, aG, xsG, _, _, rfl, rfl, s18.seq hSG, at_of ei gG, _, rfl, qG, _, _, _, rfl, rfl, s18.seq hqG, at_of ei (iv_at ok.rG his (by omega)), by show 2 ≤ sizeLine; decide, fun T0 hT0 => ?_⟩
      have sT := same_new (o := .tup [.int (ent G i i), .int 1]) hT0
      refine ⟨p1, T0, _, ((ent G i i : Int) : Rat), rfl, sqT (sT _ _ hp1), sqT upd_same, ratc_ne gf2, .inr (.inl (by show (1 : Int).natAbs < 2 ^ 64; decide)), gf3, fun p2 H9 s9 np2 hp2 => ?_⟩
      have s49 := s68.trans (sT.trans s9)
      have lv : (valsOf L G s (sidesOf lef m b)).length = s := by simp [valsOf]
      have lf : fs.length = i := by rw [DpAll.len dF4, List.length_map, List.length_take, lv]; omega
      have hF9 := s49 _ _ hF4
      refine ⟨_, rfl, _, rfl, ?_⟩
      refine ⟨_, rfl, .inl ⟨rfl, _, sqL hF9⟩, _, rfl, F, fs, _, rfl, rfl, hF9, Nat.lt_of_lt_of_le (by omega : fs.length < 100000) (by decide), ?_⟩
      have nF : p2 ≠ F := fun z => by
        rw [z, sT _ _ (s68 _ _ hF4)] at np2
        cases np2
      refine ⟨_, _, _, rfl, same_mut (s4.trans s49) fF, upd_same, ?_⟩
      rw [wo_upd, List.take_succ_eq_append_getElem (by rw [lv]; exact his), List.map_append]
      refine DpAll.snoc ?_ (DpAll.up (wo_same s49) _ dF4)
      have ev : (valsOf L G s (sidesOf lef m b))[i]'(by rw [lv]; exact his) = dsum (rr (L.getD i [])) ((sidesOf lef m b).take s) s / ((ent G i i : Int) : Rat) := by simp [valsOf]
      rw [ev]
      exact .tup (sqT (by rw [wo_at nF]; exact hp2)) (.cons (.int _) (.cons (.int _) .nil))
    · rintro σ H4 ⟨y11, y12, fs, rfl, s4, hF4, dF4⟩
      have lv : (valsOf L G s (sidesOf lef m b)).length = s := by simp [valsOf]
      rw [show (s : Int).toNat = s by omega, List.take_of_length_le (by rw [lv]; exact Nat.le_refl _)] at dF4
      have dF : Dp K H4 (.ref F) (dRs (valsOf L G s (sidesOf lef m b))) := .lst (sqL hF4) (DpAll.up wo_le _ dF4)
      have s14 := s12.trans s4
      have hx4 := s14 _ _ hx
      refine ⟨_, rfl, aR, rfl, ⟨xsR, s14.seq hSR⟩, fun D3 hD3 => ?_⟩
      refine lc_map walk_list hD3 (fun j v G' => j < n ∧ Dp K (nw eH H G') v (dR (dsum (rr ((R.getD j []).take s)) (valsOf L G s (sidesOf lef m b)) s))) (fun i v G G' s d => ⟨d.1, Dp.up (nw_mono s) _ d.2⟩) (by omega) (fun _ s5 => s5.seq (s14.seq hSR)) ?_ ?_
      · rintro j y H5 H6 hj s5 hD5 ⟨rfl, ey⟩ N go
        have hjn : j < n := by omega
        obtain ⟨q, gq, hq⟩ := rowR j _ (getD_at (by rw [lRR]; exact hjn))
        cases gq.symm.trans ey
        have lr : (R.getD j []).length = n := ok.rR.row hjn
        have s15 := s14.trans s5
        refine ⟨rfl, _, rfl, _, rfl, x, C, dx, _, _, rfl, s15 _ _ hx, c.cls, c.rank, rfl, _, rfl, q, _, rfl, s15.seq hq, fun Z hZ => ?_⟩
        have hcut : cutV (iv (R.getD j [])) none (some (s : Int)) = iv ((R.getD j []).take s) := by
          rw [cut_take (by rw [List.length_map, lr]; exact hsn)]
          exact List.map_take.symm
        rw [hcut]
        have sZ := same_new (o := .lst (iv ((R.getD j []).take s))) hZ
        refine ⟨Z, rfl, ⟨_, sqL upd_same⟩, fun D2 hD2 => ?_⟩
        refine lc_pairs (sqL upd_same) hD2 (by rw [List.length_take]; omega) (fun u H N go => ⟨rfl, _, rfl, by show 2 ≤ sizeLine; decide, go⟩) fun H7 s7 d7 => ?_
        have s57 := sZ.trans s7
        refine ⟨_, rfl, ?_⟩
        refine ⟨_, _, rr ((R.getD j []).take s), valsOf L G s (sidesOf lef m b), rfl, Dp.up (nw_le (eH_same _)) _ d7, Dp.up (s5.trans s57) _ dF, by rw [List.length_map, List.length_take, lr, lv]; omega, by rw [List.length_map, List.length_take]; omega, ok.f3 hz j hjn, fun p' H8 s8 np hp' => ?_⟩
        rw [List.length_map, List.length_take, lr, Nat.min_eq_left hsn] at hp'
        have fp := s57.free np
        refine go _ _ (s57.trans s8) ⟨hjn, mk_rat (s15.free fp) ?_⟩
        rw [wo_at (ne_new hD5 fp)]
        exact hp'
      intro H5 ys s5 g1 g2 g3
      refine ⟨D3, ys, rfl, .inl ⟨sqL g1, fun Z hZ => ?_⟩⟩
      refine ⟨by show 2 ≤ sizeLine; decide, fun pt hpt => ?_⟩
      have s15 := s14.trans s5
      have sZ := same_new (o := .tup ys) hZ
      have sp := same_new (o := .tup [.ref Z, .non]) hpt
      refine fin1 hz pt (.ref Z) _ (s15.trans (sZ.trans sp)) ((s15.trans sZ).free hpt) upd_same (.tup (sqT (by rw [nw_new (s15.free hZ)]; exact sp _ _ upd_same)) (DpAll.of (by rw [g2, lxR, lRR]; simp [spotOf]) fun j v d hv hd => ?_))
      obtain ⟨hj, d2⟩ := g3 j v hv
      unfold spotOf at hd
      rw [List.getElem?_map, List.getElem?_map, List.getElem?_range hj] at hd
      cases hd
      exact Dp.up (nw_mono (wo_le.trans (sZ.trans sp))) _ d2
  · refine ⟨_, rfl, _, rfl, ?_⟩
    refine ⟨_, rfl, by show 2 ≤ sizeLine; decide, fun pt hpt => ?_⟩
    have s12 := s1.trans s2
    exact fin2 k k1 k2 k3 _ _ _ (s12.trans (same_new hpt)) (s12.free hpt) upd_same (Dp.up (nw_far s1 (same_new hpt)) _ d2)
end
end K51W

set_option maxHeartbeats 4000000
/-! ratio_solution. -/
namespace K51W
open PySem PySem.Spec PyProof.Rows L2 K51
theorem cbot_ints : ∀ r : List Int, cbot (rr r) = 1 := fun r => by
  have key : ∀ (r : List Int), (rr r).foldl (fun b r => b * r.den / Nat.gcd b r.den) 1 = 1 := by
    intro r
    induction r with
    | nil => rfl
    | cons x r ih =>
      show (rr r).foldl _ (1 * ((x : Rat).den) / Nat.gcd 1 ((x : Rat).den)) = 1
      rw [show 1 * ((x : Rat).den) / Nat.gcd 1 ((x : Rat).den) = 1 by rw [show (x : Rat).den = 1 from rfl]; rfl]
      exact ih
  exact key r
theorem ones_at {m i : Nat} (h : i < m) : (iv (List.replicate m 1))[i]? = some (.int 1) := by simp [h]
section
variable {P : Program} {w : World} {K : PySem.W.Frag} {mg : Str → Option Value} {base : Heap} {C : Addr}
def spRS (K : PySem.W.Frag) : Sp := fun vs H Q _ => ∃ (v u : V) (A : Mat) (b : List Int) (m w e : Nat) (Res : Mat → Mat → Nat → Mat → Mat → Mat → Prop), vs = [v, u] ∧ Dp K H v (dQ (ratM A)) ∧ Dp K H u (dRs (rr b)) ∧ Rect m w A ∧ b.length = m ∧ 0 < m ∧ m ≤ 100 ∧ 0 < w ∧ w ≤ 100 ∧ e ≤ 66900000 ∧ EOk e m w A Res ∧
  ∀ top lef s L G R, Res top lef s L G R → AOk lef s m w L G R (rr b) ∧
    ((∀ k, s ≤ k → k < m → (sidesOf lef m (rr b)).getD k 0 = 0) → ∀ p v H', Same H H' → H p = none → H' p = some (.tup [v, .non]) → Dp K (nw eH H H') v (dRT (spotOf R s w (valsOf L G s (sidesOf lef m (rr b))))) → Q (.ref p) H') ∧
    ∀ k, s ≤ k → k < m → (sidesOf lef m (rr b)).getD k 0 ≠ 0 → ∀ p v H', Same H H' → H p = none → H' p = some (.tup [.non, v]) → Dp K (nw eH H H') v (dRT (rr (lef.getD k []))) → Q (.ref p) H'
theorem ok_ratio_solution {f : Addr} {fd : FuncData} (F : Df K "ratio_solution" "ratio_solution" s_ratio_solution f fd) (B : Big P base) (c : ECl K C) (T : Bn mg) (h_common_bottom : Fn P w K mg base 42 "common_bottom" ["row"] (spCB K)) (h_times : Fn P w K mg base 43 "times" ["one", "two"] (spTimes K))
    (k_Equations : Mc P w K mg base 46 "Equations" C ["self", "rows"] (spEI K C)) (m_answer_to : Md P w K mg base 45 C "answer_to" ["self", "right", "whole"] (spAT K C)) :
    FnOk P w K mg base CX0 48 f fd ["rows", "right"] (spRS K) := by
  have c_Equations := c.cls
  refine body_ok F sc_ratio_solution (fun vs H Q E h => by obtain ⟨v, u, A, b, m, w, e, Res, rfl, _⟩ := h; rfl) (fun cdv A outer s H vs Q E hr h => ?_)
  obtain ⟨v, u, A, b, m, n, e, Res, rfl, dv, du, R, lb, hm0, hm, hn0, hn, he, hE, fin⟩ := h
  refine ⟨_, (pss_cons (ps_setLc (i := 2) (own := [("row", 3)]) (by rfl) sc_ratio_solution.nd rfl rfl (sw_true rfl rfl rfl (by decide +kernel)) (piL (K := K) rfl (pv 0)) (blkOk_by (N := ["rows", "right", "bottoms", "row", "whole", "value", "by", "sides", "spot", "weights", "weight"]) (sc := defScope s_ratio_solution) (own := [("row", 3)]) (by decide +kernel)) (fun _ _ _ _ _ => (pg_name (i := 3) sc_ratio_solution.nd rfl (Or.inl rfl) (Or.inr rfl))) (fun _ _ _ _ _ => pts_nil) (fun _ _ _ _ _ => (pe_fn h_common_bottom (hr.mono (by decide)) (by rfl) (pa_cons (pv 3) pa_nil))))
      (pss_cons (ps_setLc (i := 4) (own := [("row", 3), ("by", 6)]) (by rfl) sc_ratio_solution.nd rfl rfl (sw_true rfl rfl rfl (by decide +kernel)) (piZ (K := K) rfl (by rfl) T.zip (pa_cons (pv 0) (pa_cons (pv 2) pa_nil)) rfl rfl) (blkOk_by (N := ["rows", "right", "bottoms", "row", "whole", "value", "by", "sides", "spot", "weights", "weight"]) (sc := defScope s_ratio_solution) (own := [("row", 3), ("by", 6)]) (by decide +kernel)) (fun _ _ _ _ _ => (tupG (K := K) (n := 2) rfl rfl (pgs_cons (pg_name (i := 3) sc_ratio_solution.nd rfl (Or.inl rfl) (Or.inr rfl)) (pgs_cons (pg_name (i := 6) sc_ratio_solution.nd rfl (Or.inr rfl) (Or.inl rfl)) pgs_nil)) rfl rfl)) (fun _ _ _ _ _ => pts_nil) (fun _ _ _ _ _ => (pe_lc (own := [("value", 5)]) (by rfl) sc_ratio_solution.nd (piL (K := K) rfl (pv 3)) (blkOk_by (own := [("value", 5)]) (by kernel_rfl)) (fun _ _ _ _ _ => (pg_name (i := 5) sc_ratio_solution.nd rfl (Or.inl rfl) (Or.inr rfl))) (fun _ _ _ _ _ => pts_nil) (fun _ _ _ _ _ => (pe_op op_mulP (pe_ix (ixT (K := K) rfl) (pv 5) pe_int (fun _ _ => rfl)) (pe_op (op_fdivP B ⟨_, _, rfl, rfl, rfl, rfl, rfl⟩ (hr.mono (by decide))) (pv 6) (pe_ix (ixT (K := K) rfl) (pv 5) pe_int (fun _ _ => rfl))))))))
      (pss_cons (ps_setLc (i := 7) (own := [("value", 5), ("by", 6)]) (by rfl) sc_ratio_solution.nd rfl rfl (sw_true rfl rfl rfl (by decide +kernel)) (piZ (K := K) rfl (by rfl) T.zip (pa_cons (pv 1) (pa_cons (pv 2) pa_nil)) rfl rfl) (blkOk_by (N := ["rows", "right", "bottoms", "row", "whole", "value", "by", "sides", "spot", "weights", "weight"]) (sc := defScope s_ratio_solution) (own := [("value", 5), ("by", 6)]) (by decide +kernel)) (fun _ _ _ _ _ => (tupG (K := K) (n := 2) rfl rfl (pgs_cons (pg_name (i := 5) sc_ratio_solution.nd rfl (Or.inl rfl) (Or.inr rfl)) (pgs_cons (pg_name (i := 6) sc_ratio_solution.nd rfl (Or.inl rfl) (Or.inr rfl)) pgs_nil)) rfl rfl)) (fun _ _ _ _ _ => pts_nil) (fun _ _ _ _ _ => (pe_fn h_times (hr.mono (by decide)) (by rfl) (pa_cons (pv 5) (pa_cons (pe_tup (pa_cons (pv 6) (pa_cons pe_int pa_nil))) pa_nil)))))
      (pss_cons (ps_asg (pe_md m_answer_to c_Equations (hr.mono (by decide)) (pe_mkc k_Equations (hr.mono (by decide)) (by rfl) (pa_cons (pv 4) pa_nil)) (pa_cons (pv 7) (pa_cons pe_bl pa_nil))) (tupG (K := K) (n := 2) rfl rfl (pgs_cons (pg_name (i := 8) sc_ratio_solution.nd rfl (Or.inl rfl) (Or.inr rfl)) (pgs_cons (pg_name (i := 9) sc_ratio_solution.nd rfl (Or.inl rfl) (Or.inr rfl)) pgs_nil)) rfl rfl))
      (pss_cons (ps_if (pt_cmp (pc_notN (pv 8))) (pss_one (ps_ret (pe_tup (pa_cons (pv 8) (pa_cons pe_non pa_nil))))) pss_nil)
      (pss_one (ps_ret (pe_tup (pa_cons pe_non (pa_cons (pe_callTy (tupO (K := K) rfl) (by rfl) T.tuple (by decide +kernel) (pa_cons (pe_lc (own := [("weight", 10), ("by", 6)]) (by rfl) sc_ratio_solution.nd (piZ3 (K := K) rfl (by rfl) T.zip (pa_cons (pv 9) (pa_cons (pv 2) pa_nil)) rfl rfl) (blkOk_by (N := ["rows", "right", "bottoms", "row", "whole", "value", "by", "sides", "spot", "weights", "weight"]) (sc := defScope s_ratio_solution) (own := [("weight", 10), ("by", 6)]) (by decide +kernel)) (fun _ _ _ _ _ => (tupG (K := K) (n := 2) rfl rfl (pgs_cons (pg_name (i := 10) sc_ratio_solution.nd rfl (Or.inl rfl) (Or.inr rfl)) (pgs_cons (pg_name (i := 6) sc_ratio_solution.nd rfl (Or.inl rfl) (Or.inr rfl)) pgs_nil)) rfl rfl)) (fun _ _ _ _ _ => pts_nil) (fun _ _ _ _ _ => (pe_fn h_times (hr.mono (by decide)) (by rfl) (pa_cons (pv 10) (pa_cons (pe_tup (pa_cons (pv 6) (pa_cons pe_int pa_nil))) pa_nil))))) pa_nil)) pa_nil)))))))))), ?_⟩
  obtain ⟨a, xs, rfl, hS, dx⟩ := Dp.lstI dv
  obtain ⟨b1, ys1, rfl, hSb, db⟩ := Dp.lstI du
  have lA : A.length = m := R.1
  have lx : xs.length = m := by rw [DpAll.len dx, List.length_map, List.length_map, lA]
  have lyb : ys1.length = m := by rw [DpAll.len db, List.length_map, List.length_map, lb]
  have rowx : ∀ i, i < m → ∃ q zs, xs[i]? = some (.ref q) ∧ SqL K H q zs ∧ DpAll K H zs ((rr (A.getD i [])).map dR) := fun i hi => by
    obtain ⟨v, h1, h2⟩ := DpAll.get (i := i) (d := dRs (rr (A.getD i []))) dx (by rw [List.getElem?_map, List.getElem?_map, getD_at (by rw [lA]; exact hi)]; rfl)
    obtain ⟨q, zs, rfl, h3, h4⟩ := Dp.lstI h2
    exact ⟨q, zs, h1, h3, h4⟩
  -- bottoms
  refine ⟨_, rfl, a, rfl, ⟨xs, hS⟩, fun D hD => ?_⟩
  refine lc_map walk_list hD (fun i v G => v = .int 1) (fun _ _ _ _ _ z => z) (by omega) (fun _ s1 => s1.seq hS) ?_ ?_
  · rintro i y H1 H2 hi s1 hD1 ⟨rfl, ey⟩ N go
    have him : i < m := by omega
    obtain ⟨q, zs, gq, hq, dq⟩ := rowx i him
    cases gq.symm.trans ey
    have lr : (A.getD i []).length = n := R.row him
    refine ⟨rfl, _, rfl, ?_⟩
    refine ⟨_, rr (A.getD i []), rfl, .inl (.lst (s1.seq hq) (DpAll.up s1 _ dq)), by rw [List.length_map, lr]; omega, fun j r hr => ?_, go _ _ (Same.refl _) ?_⟩
    · rw [List.getElem?_map] at hr
      obtain ⟨u, hu, rfl⟩ := Option.map_eq_some_iff.mp hr
      exact .inr (.inl (by show (1 : Int).natAbs < 2 ^ 64; decide))
    · rw [cbot_ints]; rfl
  intro H1 ys s1 f1 f2 f3
  have ey : ys = iv (List.replicate m 1) := ext_of (by rw [f2, lx]; simp) fun j y z hy hz => by
    have hj : j < m := by have := (List.getElem?_eq_some_iff.mp hy).1; omega
    rw [f3 j y hy]
    rw [ones_at hj] at hz
    exact Option.some.inj hz
  subst ey
  have hB1 : SqL K H1 D (iv (List.replicate m 1)) := sqL f1
  have l1 : (iv (List.replicate m 1)).length = m := by simp
  -- whole
  refine ⟨_, rfl, _, rfl, a, D, xs, _, rfl, s1.seq hS, hB1, fun D2 hD2 => ?_⟩
  refine lc_map (walk_zip (n := m) (by rw [lx, l1]; omega)) hD2 (fun i v G => i < m ∧ Dp K (nw eH H1 G) v (dI (A.getD i []))) (fun i v G G' s d => ⟨d.1, Dp.up (nw_mono s) _ d.2⟩) (by omega) (fun _ s2 => ⟨s2.seq (s1.seq hS), s2.seq hB1⟩) ?_ ?_
  · rintro i y H2 H3 hi s2 hD3 ⟨T', x1, y1, rfl, nT, rfl, e1, e2⟩ N go
    obtain ⟨q, zs, gq, hq, dq⟩ := rowx i hi
    cases gq.symm.trans e1
    cases (ones_at hi).symm.trans e2
    have sT : Same H2 (upd H2 T' (.tup [.ref q, .int 1])) := same_new nT
    have sA := s1.trans (s2.trans sT)
    refine ⟨T', [.ref q, .int 1], rfl, sqT upd_same, rfl, _, _, rfl, _, _, rfl, rfl, rfl, ?_⟩
    have lr : (A.getD i []).length = n := R.row hi
    have lz : zs.length = n := by rw [DpAll.len dq, List.length_map, List.length_map, lr]
    refine ⟨_, rfl, q, rfl, ⟨zs, sA.seq hq⟩, fun D3 hD4 => ?_⟩
    refine lc_map walk_list hD4 (fun j v _ => ∃ u, (A.getD i [])[j]? = some u ∧ v = .int u) (fun _ _ _ _ _ z => z) (by omega) (fun _ s4 => s4.seq (sA.seq hq)) ?_ ?_
    · rintro j y H4 H5 hj s4 hD5 ⟨rfl, ey⟩ N2 go2
      obtain ⟨r, p, hr', rfl, qp⟩ := rats_get dq ey
      rw [List.getElem?_map] at hr'
      obtain ⟨u, hu, rfl⟩ := Option.map_eq_some_iff.mp hr'
      have qp' := Same.seqT (sA.trans s4) qp
      refine ⟨rfl, _, rfl, p, _, _, _, rfl, rfl, qp', at0 _, _, rfl, _, rfl, p, _, _, _, rfl, rfl, qp', at1 _, _, _, rfl, rfl, den_ne _, _, _, rfl, rfl, .inr (.inl (by show ((1 : Int).fdiv 1).natAbs < 2 ^ 64; decide)), go2 _ _ (Same.refl _) ⟨u, hu, ?_⟩⟩
      show V.int (u * (1 : Int).fdiv 1) = V.int u
      rw [show (1 : Int).fdiv 1 = 1 from rfl, Int.mul_one]
    · intro H4 ws s4 g1 g2 g3
      have ew : ws = iv (A.getD i []) := ext_of (by rw [g2, lz, List.length_map, lr]) fun j y z hy hz => by
        obtain ⟨u, hu, rfl⟩ := g3 j y hy
        rw [List.getElem?_map, hu] at hz
        exact Option.some.inj hz
      subst ew
      have nD : D3 ≠ D2 := fun z => hD3 (sT.free (z ▸ hD4))
      refine go _ _ (sT.trans s4) ⟨hi, mk_ints ((s2.trans sT).free hD4) ?_⟩
      rw [wo_at nD]
      exact g1
  intro H2 ws s2 g1 g2 g3
  have dW : Dp K (nw eH H1 H2) (.ref D2) (dM A) := .lst (sqL (by rw [nw_new hD2]; exact g1)) (DpAll.of (by rw [g2, List.length_map, lA]) fun j v d hv hd => by
    obtain ⟨hj, d2⟩ := g3 j v hv
    rw [List.getElem?_map, getD_at (by rw [lA]; exact hj)] at hd
    cases hd
    exact Dp.up (nw_mono wo_le) _ d2)
  have dW' := Dp.up (nw_le (eH_same _)) _ dW
  have s12 := s1.trans s2
  -- sides
  refine ⟨_, rfl, _, rfl, b1, D, ys1, _, rfl, s12.seq hSb, s2.seq hB1, fun D3 hD3 => ?_⟩
  refine lc_map (walk_zip (n := m) (by rw [lyb, l1]; omega)) hD3 (fun i v G => ∃ u, b[i]? = some u ∧ Dp K (nw eH H2 G) v (dR (u : Rat))) (fun i v G G' s ⟨u, h1, d⟩ => ⟨u, h1, Dp.up (nw_mono s) _ d⟩) (by omega) (fun _ s3 => ⟨s3.seq (s12.seq hSb), s3.seq (s2.seq hB1)⟩) ?_ ?_
  · rintro i y H3 H4 hi s3 hD4 ⟨T', x1, y1, rfl, nT, rfl, e1, e2⟩ N go
    obtain ⟨r, p, hr', rfl, qp⟩ := rats_get db e1
    rw [List.getElem?_map] at hr'
    obtain ⟨u, hu, rfl⟩ := Option.map_eq_some_iff.mp hr'
    cases (ones_at hi).symm.trans e2
    have sT : Same H3 (upd H3 T' (.tup [.ref p, .int 1])) := same_new nT
    have sA := s12.trans (s3.trans sT)
    refine ⟨T', [.ref p, .int 1], rfl, sqT upd_same, rfl, _, _, rfl, _, _, rfl, rfl, rfl, ?_⟩
    refine ⟨_, rfl, _, rfl, by show 2 ≤ sizeLine; decide, fun T0 hT0 => ?_⟩
    have sU := same_new (o := .tup [.int 1, .int 1]) hT0
    refine ⟨p, T0, (u : Rat), ((1 : Int) : Rat), rfl, Same.seqT (sA.trans sU) qp, sqT upd_same, .inr (.inl (by show (1 : Int).natAbs < 2 ^ 64; decide)), .inl (by show (1 : Int).natAbs < 2 ^ 64; decide), fun p' H5 s5 np' hp' => ?_⟩
    have h1 : (u : Rat) * ((1 : Int) : Rat) = u := by rw [Rat.intCast_one, Rat.mul_one]
    rw [h1] at hp'
    have fp' := sT.free (sU.free np')
    refine go _ _ (sT.trans (sU.trans s5)) ⟨u, hu, mk_rat (s3.free fp') ?_⟩
    rw [wo_at (ne_new hD4 fp')]
    exact hp'
  intro H3 us s3 g1' g2' g3'
  have dS : Dp K H3 (.ref D3) (dRs (rr b)) := .lst (sqL g1') (DpAll.of (by rw [g2', List.length_map, List.length_map, lb]) fun j v d hv hd => by
    obtain ⟨u, hu, d2⟩ := g3' j v hv
    rw [List.getElem?_map, List.getElem?_map, hu] at hd
    cases hd
    exact Dp.up (nw_le (eH_same _)) _ (Dp.up (nw_mono wo_le) _ d2))
  -- the equations
  refine ⟨_, rfl, fun x dx' hx hdx nx => ?_⟩
  have sx : Same H3 (upd (upd H3 dx' (.own x)) x (.ins C dx' [])) := (same_new hdx).trans (same_new (by rw [upd_ne (Ne.symm nx)]; exact hx))
  refine ⟨x, dx', _, A, m, n, e, H3, Res, rfl, hx, sx, upd_same, Dp.up s3 _ dW', R, hm0, hm, hn0, hn, he, hE, fun H4 top lef sN L G R' s4 hR EO => ⟨rfl, ?_⟩⟩
  obtain ⟨hA, fin1, fin2⟩ := fin top lef sN L G R' hR
  have EO' := EO
  obtain ⟨dx4, p4, vl, a4, b4, c4, hx4, -⟩ := EO'
  have s14 := s12.trans (s3.trans s4)
  refine ⟨x, dx4, _, rfl, hx4, rfl, _, rfl, ?_⟩
  refine ⟨x, _, lef, sN, m, n, L, G, R', rr b, rfl, EO, Dp.up s4 _ dS, hA, fun hz p v H5 s5 np hp dv5 => ?_, fun k k1 k2 k3 p v H5 s5 np hp dv5 => ?_⟩
  · obtain ⟨av, zs, rfl, qz, -⟩ := Dp.tupI dv5
    refine ⟨p, [.ref av, .non], rfl, sqT hp, rfl, _, _, rfl, _, _, rfl, rfl, ?_⟩
    refine ⟨_, rfl, _, rfl, ?_⟩
    refine ⟨_, rfl, by show 2 ≤ sizeLine; decide, fun pt hpt => ?_⟩
    have s15 := s14.trans s5
    have sp := same_new (o := .tup [.ref av, .non]) hpt
    exact fin1 hz pt _ _ (s15.trans sp) (s15.free hpt) upd_same (Dp.up (nw_far s14 sp) _ dv5)
  · obtain ⟨av, zs, rfl, qz, dz⟩ := Dp.tupI (Dp.up (nw_le (eH_same _)) _ dv5)
    refine ⟨p, [.non, .ref av], rfl, sqT hp, rfl, _, _, rfl, _, _, rfl, rfl, ?_⟩
    refine ⟨_, rfl, _, rfl, ?_⟩
    dsimp only [if_false, tNext]
    have lr : (lef.getD k []).length = m := hA.rl.row k2
    have lz : zs.length = m := by rw [DpAll.len dz, List.length_map, List.length_map, lr]
    have s15 := s14.trans s5
    have hB5 : SqL K H5 D (iv (List.replicate m 1)) := (s2.trans (s3.trans (s4.trans s5))).seq hB1
    refine ⟨_, rfl, _, rfl, av, D, zs, _, rfl, .inr (.inr ⟨qz, hB5, fun D4 hD4 => ?_⟩)⟩
    refine lc_map (walk_zm (n := m) (by rw [lz, l1]; omega)) hD4 (fun i v G => ∃ u, (lef.getD k [])[i]? = some u ∧ Dp K (nw eH H G) v (dR (u : Rat))) (fun i v G G' s ⟨u, h1, d⟩ => ⟨u, h1, Dp.up (nw_mono s) _ d⟩) (by omega) (fun _ s6 => ⟨Same.seqT s6 qz, s6.seq hB5⟩) ?_ ?_
    · rintro i y H6 H7 hi s6 hD6 ⟨T', x1, y1, rfl, nT, rfl, e1, e2⟩ N go
      obtain ⟨r, q, hr', rfl, qp⟩ := rats_get dz e1
      rw [List.getElem?_map] at hr'
      obtain ⟨u, hu, rfl⟩ := Option.map_eq_some_iff.mp hr'
      cases (ones_at hi).symm.trans e2
      have sT : Same H6 (upd H6 T' (.tup [.ref q, .int 1])) := same_new nT
      refine ⟨T', [.ref q, .int 1], rfl, sqT upd_same, rfl, _, _, rfl, _, _, rfl, rfl, rfl, ?_⟩
      refine ⟨_, rfl, _, rfl, by show 2 ≤ sizeLine; decide, fun T0 hT0 => ?_⟩
      have sU := same_new (o := .tup [.int 1, .int 1]) hT0
      refine ⟨q, T0, (u : Rat), ((1 : Int) : Rat), rfl, Same.seqT (s6.trans (sT.trans sU)) qp, sqT upd_same, .inr (.inl (by show (1 : Int).natAbs < 2 ^ 64; decide)), .inl (by show (1 : Int).natAbs < 2 ^ 64; decide), fun p' H8 s8 np' hp' => ?_⟩
      have h1 : (u : Rat) * ((1 : Int) : Rat) = u := by rw [Rat.intCast_one, Rat.mul_one]
      rw [h1] at hp'
      have fp' := sT.free (sU.free np')
      refine go _ _ (sT.trans (sU.trans s8)) ⟨u, hu, mk_rat ((s15.trans s6).free fp') ?_⟩
      rw [wo_at (ne_new hD6 fp')]
      exact hp'
    intro H6 us s6 g4 g5 g6
    refine ⟨D4, us, rfl, .inl ⟨sqL g4, fun Z hZ => ⟨by show 2 ≤ sizeLine; decide, fun pt hpt => ?_⟩⟩⟩
    have s16 := s15.trans s6
    have sZ := same_new (o := .tup us) hZ
    have sp := same_new (o := .tup [.non, .ref Z]) hpt
    refine fin2 k k1 k2 k3 pt (.ref Z) _ (s16.trans (sZ.trans sp)) ((s16.trans sZ).free hpt) upd_same (.tup (sqT (by rw [nw_new (s16.free hZ)]; exact sp _ _ upd_same)) (DpAll.of (by rw [g5, List.length_map, List.length_map, lr]) fun j v d hv hd => ?_))
    obtain ⟨u, hu, du'⟩ := g6 j v hv
    rw [List.getElem?_map, List.getElem?_map, hu] at hd
    cases hd
    exact Dp.up (nw_mono (wo_le.trans (sZ.trans sp))) _ du'
end
end K51W

set_option maxHeartbeats 200000
/-! is_whole, is_list, told_exponents, told_result. -/
namespace K51W
open PySem PySem.Spec PyProof.Rows L2 K51
section
variable {P : Program} {w : World} {K : PySem.W.Frag} {mg : Str → Option Value} {base : Heap} {C : Addr}
theorem tyx_l {H : Hp} {a : Addr} {xs : List V} (h : SqL K H a xs) : TyX K H (.ref a) (.type "list") := by
  rcases h with (h | ⟨o, h⟩) | ⟨o, its, n, h1, h2, _⟩
  · exact .base (.lst h)
  · exact .base (.frz h)
  · exact .kList h1 h2
theorem tyx_t {H : Hp} {a : Addr} {xs : List V} (h : SqT K H a xs) : TyX K H (.ref a) (.type "tuple") := by
  rcases h with (h | ⟨o, h⟩) | ⟨o, its, n, h1, h2, _⟩
  · exact .base (.tup h)
  · exact .fTuple h
  · exact .kTuple h1 h2
def spIsW : Sp := fun vs H Q _ => ∃ i : Int, vs = [.int i] ∧ Q (.bl true) H
theorem ok_is_whole {f : Addr} {fd : FuncData} (F : Df K "is_whole" "is_whole" s_is_whole f fd) (T : Bn mg) : FnOk P w K mg base CX0 41 f fd ["value"] spIsW := by
  refine body_ok F sc_is_whole (fun vs H Q E h => by obtain ⟨i, rfl, _⟩ := h; rfl) (fun cdv A outer s H vs Q E hr h => ?_)
  obtain ⟨i, rfl, q⟩ := h
  refine ⟨_, (pss_one (ps_ret (pe_and (pe_callB (isiK (K := K) rfl) (by rfl) T.isinstance (by decide +kernel) (pa_cons (pv 0) (pa_cons (pe_bltn (v := .ty "int") (by rfl) T.int (by decide +kernel) rfl) pa_nil))) (pe_one (pe_not (pe_callB (isiK (K := K) rfl) (by rfl) T.isinstance (by decide +kernel) (pa_cons (pv 0) (pa_cons (pe_bltn (v := .ty "bool") (by rfl) T.bool (by decide +kernel) rfl) pa_nil)))))))), ?_⟩
  refine ⟨_, rfl, _, _, _, _, true, rfl, .ty _, .base (.int i), kit_ty (by decide), ?_⟩
  exact ⟨_, rfl, _, rfl, _, _, _, _, false, rfl, .ty _, .base (.int i), kit_ty (by decide), _, rfl, q⟩
def spIsL (K : PySem.W.Frag) : Sp := fun vs H Q _ => ∃ a xs, vs = [.ref a] ∧ (SqL K H a xs ∨ SqT K H a xs) ∧ ∀ H', Same H H' → Q (.bl true) H'
theorem ok_is_list {f : Addr} {fd : FuncData} (F : Df K "is_list" "is_list" s_is_list f fd) (T : Bn mg) : FnOk P w K mg base CX0 41 f fd ["value"] (spIsL K) := by
  refine body_ok F sc_is_list (fun vs H Q E h => by obtain ⟨a, xs, rfl, _⟩ := h; rfl) (fun cdv A outer s H vs Q E hr h => ?_)
  obtain ⟨a, xs, rfl, h, q⟩ := h
  refine ⟨_, (pss_one (ps_ret (pe_callB (isiTK (K := K) rfl) (by rfl) T.isinstance (by decide +kernel) (pa_cons (pv 0) (pa_cons (pe_tup (pa_cons (pe_bltn (v := .ty "list") (by rfl) T.list (by decide +kernel) rfl) (pa_cons (pe_bltn (v := .ty "tuple") (by rfl) T.tuple (by decide +kernel) rfl) pa_nil))) pa_nil))))), ?_⟩
  refine ⟨_, rfl, by show 2 ≤ sizeLine; decide, fun tp htp => ?_⟩
  have s1 := same_new (o := .tup [.ty "list", .ty "tuple"]) htp
  rcases h with h | h
  · exact ⟨_, tp, _, _, _, true, rfl, upd_same, .cons (.ty _) (.cons (.ty _) .nil), tyx_l (s1.seq h), kitAny_cons (b := true) (kit_ty (by decide)) (fun z => nomatch z) (fun _ => rfl), q _ s1⟩
  · exact ⟨_, tp, _, _, _, true, rfl, upd_same, .cons (.ty _) (.cons (.ty _) .nil), tyx_t (Same.seqT s1 h), kitAny_cons (b := false) (kit_ty (by decide)) (fun _ => kitAny_cons (b := true) (kit_ty (by decide)) (fun z => nomatch z) (fun _ => rfl)) (fun z => nomatch z), q _ s1⟩
def spTE (K : PySem.W.Frag) : Sp := fun vs H Q _ => ∃ (v : V) (A : Mat) (m w : Nat), vs = [v] ∧ RowsS K H v A ∧ Rect m w A ∧ 0 < m ∧ m ≤ 100 ∧ 0 < w ∧ w ≤ 100 ∧ ∀ v' H', Same H H' → Dp K (nw eH H H') v' (dM A) → Q v' H'
theorem ok_told_exponents {f : Addr} {fd : FuncData} (F : Df K "told_exponents" "told_exponents" s_told_exponents f fd) (T : Bn mg) (h_is_whole : Fn P w K mg base 41 "is_whole" ["value"] spIsW) (h_is_list : Fn P w K mg base 41 "is_list" ["value"] (spIsL K)) :
    FnOk P w K mg base CX0 42 f fd ["exponents"] (spTE K) := by
  refine body_ok F sc_told_exponents (fun vs H Q E h => by obtain ⟨v, A, m, w, rfl, _⟩ := h; rfl) (fun cdv A outer s H vs Q E hr h => ?_)
  obtain ⟨v, A, m, n, rfl, hv, R, h0, hm, hn0, hn, fin⟩ := h
  obtain ⟨a, xs, rfl, hS, hl, hrow⟩ := hv
  refine ⟨_, (pss_cons (ps_if (PW.pt (pw_or (pt_not (pt_val (pe_fn h_is_list (hr.mono (by decide)) (by rfl) (pa_cons (pv 0) pa_nil)))) (pw_or1 (pt_cmpR op_eq (pe_callB (lenS (K := K) rfl) (by rfl) T.len (by decide +kernel) (pa_cons (pv 0) pa_nil)) pe_int (nomark _))))) (pss_one ps_never) pss_nil)
      (pss_cons (ps_for PassesOwn.never rfl (piS (K := K) rfl (pv 0)) (pg_name (i := 1) sc_told_exponents.nd rfl (Or.inl rfl) (Or.inr rfl))
      (pss_cons (ps_if (PW.pt (pw_or (pt_not (pt_val (pe_fn h_is_list (hr.mono (by decide)) (by rfl) (pa_cons (pv 1) pa_nil)))) (pw_or (pt_cmpR op_eq (pe_callB (lenS (K := K) rfl) (by rfl) T.len (by decide +kernel) (pa_cons (pv 1) pa_nil)) pe_int (nomark _)) (pw_or1 (pt_cmpR op_ne (pe_callB (lenS (K := K) rfl) (by rfl) T.len (by decide +kernel) (pa_cons (pv 1) pa_nil)) (pe_callB (lenS (K := K) rfl) (by rfl) T.len (by decide +kernel) (pa_cons (pe_ix (ixS (K := K) rfl) (pv 0) pe_int (fun _ _ => rfl)) pa_nil)) (nomark _)))))) (pss_one ps_never) pss_nil)
      (pss_one (ps_if (pt_not (pt_val (pe_callB (allK (K := K) rfl rfl) (by rfl) T.all (by decide +kernel) (pa_cons (pe_lc (own := [("item", 2)]) (by rfl) sc_told_exponents.nd (piS (K := K) rfl (pv 1)) (blkOk_by (N := ["exponents", "row", "item"]) (sc := defScope s_told_exponents) (own := [("item", 2)]) (by decide +kernel)) (fun _ _ _ _ _ => (pg_name (i := 2) sc_told_exponents.nd rfl (Or.inl rfl) (Or.inr rfl))) (fun _ _ _ _ _ => pts_nil) (fun _ _ _ _ _ => (pe_fn h_is_whole (hr.mono (by decide)) (by rfl) (pa_cons (pv 2) pa_nil)))) pa_nil)))) (pss_one ps_never) pss_nil))))
      (pss_one (ps_ret (pe_lc (own := [("row", 1)]) (by rfl) sc_told_exponents.nd (piS (K := K) rfl (pv 0)) (blkOk_by (N := ["exponents", "row", "item"]) (sc := defScope s_told_exponents) (own := [("row", 1)]) (by decide +kernel)) (fun _ _ _ _ _ => (pg_name (i := 1) sc_told_exponents.nd rfl (Or.inl rfl) (Or.inr rfl))) (fun _ _ _ _ _ => pts_nil) (fun _ _ _ _ _ => (pe_callTy (listO (K := K) rfl) (by rfl) T.list (by decide +kernel) (pa_cons (pv 1) pa_nil)))))))), ?_⟩
  have lA : A.length = m := R.1
  have row := fun i (hi : i < m) => hrow i _ (getD_at (by rw [lA]; exact hi))
  have hne : ∀ k : Nat, 0 < k → decide (V.int (k : Int) = V.int 0) = false := fun k hk => decide_eq_false fun z => by have := V.int.inj z; omega
  refine ⟨_, rfl, a, xs, rfl, hS, fun H1 s1 => ⟨_, rfl, ?_⟩⟩
  refine ⟨_, rfl, a, xs, rfl, SqS.same s1 hS, rfl, _, rfl, ?_⟩
  rw [hne _ (by omega)]
  dsimp only [tNext]
  refine ⟨_, rfl, a, xs, rfl, seq_or (SqS.same s1 hS) fun J Gd wk hG => ?_⟩
  refine for_it wk (fun i σ H' => Same H1 H' ∧ ∃ y, σ = [some (.ref a), y, none]) ⟨Same.refl _, none, rfl⟩ (fun i σ H' _ ⟨s, _⟩ => hG _ s) ?_ ?_
  · rintro i x σ H2 H3 hi ⟨s2, y, rfl⟩ ⟨rfl, ex⟩
    have him : i < m := by omega
    obtain ⟨p, gp, qp⟩ := row i him
    cases ex.symm.trans gp
    have lr : (A.getD i []).length = n := R.row him
    have s12 := s1.trans s2
    refine ⟨_, rfl, p, _, rfl, SqS.same s12 qp, fun H4 s4 => ⟨_, rfl, ?_⟩⟩
    have s14 := s12.trans s4
    obtain ⟨p0, gp0, qp0⟩ := row 0 h0
    have lr0 : (A.getD 0 []).length = n := R.row h0
    refine ⟨_, rfl, p, _, rfl, SqS.same s14 qp, rfl, _, rfl, ?_⟩
    rw [List.length_map, lr, hne n hn0]
    refine ⟨_, rfl, p, _, rfl, SqS.same s14 qp, _, rfl, ixR (SqS.same s14 hS) (atI_nat (j := 0) gp0) ⟨p0, _, rfl, SqS.same s14 qp0, rfl, _, rfl, ?_⟩⟩
    rw [List.length_map, List.length_map, lr, lr0, decide_eq_true rfl]
    dsimp only [tNext]
    refine ⟨_, rfl, p, _, rfl, seq_or (SqS.same s14 qp) fun J2 Gd2 wk2 hG2 D hD => ?_⟩
    refine lc_map wk2 hD (fun j v _ => v = .bl true) (fun _ _ _ _ _ z => z) (by rw [List.length_map, lr]; omega) (fun _ s5 => hG2 _ s5) ?_ ?_
    · rintro j z H5 H6 hj s5 hD5 ⟨rfl, ez⟩ N go
      obtain ⟨u, hu, rfl⟩ := iv_get ez
      exact ⟨rfl, _, rfl, u, rfl, go _ _ (Same.refl _) rfl⟩
    · intro H5 bs s5 f1 f2 f3
      have eb : bs = (List.replicate n true).map V.bl := ext_of (by rw [f2, List.length_map, List.length_map, List.length_replicate, lr]) fun j y z hy hz => by
        have hj : j < n := by have := (List.getElem?_eq_some_iff.mp hz).1; simpa using this
        rw [f3 j y hy]
        simp [hj] at hz
        exact hz
      refine ⟨D, _, rfl, sqL (by rw [f1, eb]), ?_⟩
      rw [show (List.replicate n true).all id = true by simp]
      exact ⟨_, rfl, s2.trans (s4.trans s5), _, rfl⟩
  · rintro σ H2 ⟨s2, y, rfl⟩
    have s12 := s1.trans s2
    refine ⟨_, rfl, a, xs, rfl, seq_or (SqS.same s12 hS) fun J2 Gd2 wk2 hG2 D hD => ?_⟩
    refine lc_map wk2 hD (fun i v G => i < m ∧ Dp K (nw eH H G) v (dI (A.getD i []))) (fun i v G G' s d => ⟨d.1, Dp.up (nw_mono s) _ d.2⟩) (by omega) (fun _ s3 => hG2 _ s3) ?_ ?_
    · rintro i x H3 H4 hi s3 hD3 ⟨rfl, ex⟩ N go
      have him : i < m := by omega
      obtain ⟨p, gp, qp⟩ := row i him
      cases ex.symm.trans gp
      have s13 := s12.trans s3
      refine ⟨rfl, _, rfl, p, _, rfl, SqS.same s13 qp, fun Z hZ => go _ _ (same_new hZ) ⟨him, mk_ints (s13.free hZ) ?_⟩⟩
      rw [wo_at (ne_new hD3 hZ), upd_same]
    · intro H3 ys s3 f1 f2 f3
      have s13 := s12.trans s3
      refine fin _ _ s13 (.lst (sqL (by rw [nw_new (s12.free hD)]; exact f1)) (DpAll.of (by rw [f2, List.length_map, hl]) fun j v d hv hd => ?_))
      obtain ⟨hj, d2⟩ := f3 j v hv
      rw [List.getElem?_map, getD_at (by rw [lA]; exact hj)] at hd
      cases hd
      exact Dp.up (nw_mono wo_le) _ d2
/-- integers, in a list or a tuple -/
def IntsS (K : PySem.W.Frag) (H : Hp) (v : V) (r : List Int) : Prop := ∃ a, v = .ref a ∧ (SqL K H a (iv r) ∨ SqT K H a (iv r))
def spTRes (K : PySem.W.Frag) : Sp := fun vs H Q _ => ∃ (v : V) (r : List Int), vs = [v, .int (r.length : Int)] ∧ IntsS K H v r ∧ r.length ≤ 100 ∧ ∀ v' H', Same H H' → Dp K (nw eH H H') v' (dI r) → Q v' H'
theorem ok_told_result {f : Addr} {fd : FuncData} (F : Df K "told_result" "told_result" s_told_result f fd) (T : Bn mg) (h_is_whole : Fn P w K mg base 41 "is_whole" ["value"] spIsW) (h_is_list : Fn P w K mg base 41 "is_list" ["value"] (spIsL K)) :
    FnOk P w K mg base CX0 42 f fd ["result", "many"] (spTRes K) := by
  refine body_ok F sc_told_result (fun vs H Q E h => by obtain ⟨v, r, rfl, _⟩ := h; rfl) (fun cdv A outer s H vs Q E hr h => ?_)
  obtain ⟨v, r, rfl, ⟨p, rfl, qp⟩, hn, fin⟩ := h
  refine ⟨_, (pss_cons (ps_if (PW.pt (pw_or (pt_not (pt_val (pe_fn h_is_list (hr.mono (by decide)) (by rfl) (pa_cons (pv 0) pa_nil)))) (pw_or (pt_cmpR op_ne (pe_callB (lenS (K := K) rfl) (by rfl) T.len (by decide +kernel) (pa_cons (pv 0) pa_nil)) (pv 1) (nomark _)) (pw_or1 (pt_not (pt_val (pe_callB (allK (K := K) rfl rfl) (by rfl) T.all (by decide +kernel) (pa_cons (pe_lc (own := [("item", 2)]) (by rfl) sc_told_result.nd (piS (K := K) rfl (pv 0)) (blkOk_by (N := ["result", "many", "item"]) (sc := defScope s_told_result) (own := [("item", 2)]) (by decide +kernel)) (fun _ _ _ _ _ => (pg_name (i := 2) sc_told_result.nd rfl (Or.inl rfl) (Or.inr rfl))) (fun _ _ _ _ _ => pts_nil) (fun _ _ _ _ _ => (pe_fn h_is_whole (hr.mono (by decide)) (by rfl) (pa_cons (pv 2) pa_nil)))) pa_nil)))))))) (pss_one ps_never) pss_nil)
      (pss_one (ps_ret (pe_callTy (listO (K := K) rfl) (by rfl) T.list (by decide +kernel) (pa_cons (pv 0) pa_nil))))), ?_⟩
  refine ⟨_, rfl, p, _, rfl, qp, fun H1 s1 => ⟨_, rfl, ?_⟩⟩
  refine ⟨_, rfl, p, _, rfl, SqS.same s1 qp, _, rfl, rfl, _, rfl, ?_⟩
  rw [List.length_map, decide_eq_true rfl]
  refine ⟨_, rfl, p, _, rfl, seq_or (SqS.same s1 qp) fun J2 Gd2 wk2 hG2 D hD => ?_⟩
  refine lc_map wk2 hD (fun j v _ => v = .bl true) (fun _ _ _ _ _ z => z) (by rw [List.length_map]; omega) (fun _ s5 => hG2 _ s5) ?_ ?_
  · rintro j z H5 H6 hj s5 hD5 ⟨rfl, ez⟩ N go
    obtain ⟨u, hu, rfl⟩ := iv_get ez
    exact ⟨rfl, _, rfl, u, rfl, go _ _ (Same.refl _) rfl⟩
  · intro H5 bs s5 f1 f2 f3
    have eb : bs = (List.replicate r.length true).map V.bl := ext_of (by rw [f2]; simp) fun j y z hy hz => by
      have hj : j < r.length := by have := (List.getElem?_eq_some_iff.mp hz).1; simpa using this
      rw [f3 j y hy]
      simp [hj] at hz
      exact hz
    refine ⟨D, _, rfl, sqL (by rw [f1, eb]), ?_⟩
    rw [show (List.replicate r.length true).all id = true by simp]
    have s15 := s1.trans s5
    refine ⟨_, rfl, ?_⟩
    dsimp only [tNext]
    refine ⟨_, rfl, p, _, rfl, SqS.same s15 qp, fun Z hZ => ?_⟩
    exact fin _ _ (s15.trans (same_new hZ)) (mk_ints (s15.free hZ) upd_same)
end
end K51W

set_option maxHeartbeats 4000000
/-! Zero, Hangs, span_answer, group_at, change_at. -/
namespace K51W
open PySem PySem.Spec PyProof.Rows L2 K51
section
variable {P : Program} {w : World} {K : PySem.W.Frag} {mg : Str → Option Value} {base : Heap} {C : Addr}
def spZI (K : PySem.W.Frag) (C : Addr) : Sp := fun vs H Q _ => ∃ (x dx : Addr) (v : V), vs = [.ref x, v] ∧ H x = some (.ins C dx []) ∧ Q .non (upd H x (.ins C dx [("change", v)]))
theorem ok_Zero_init {f : Addr} {fd : FuncData} (F : Df K "__init__" "Zero.__init__" s_Zero_init f fd) (c : Cls K C) (n : NoAttr K C "change") : FnOk P w K mg base CX0 41 f fd ["self", "change"] (spZI K C) := by
  refine body_ok F sc_Zero_init (fun vs H Q E h => by obtain ⟨x, dx, v, rfl, _⟩ := h; rfl) (fun cdv A outer s H vs Q E hr h => ?_)
  obtain ⟨x, dx, v, rfl, hx, q⟩ := h
  refine ⟨_, (pss_one (ps_fld (pv 0) (pv 1) rfl)), ?_⟩
  exact ⟨_, rfl, _, rfl, x, C, dx, _, rfl, hx, c, n, by decide, q⟩
/-- the class Hangs -/
structure HCl (K : PySem.W.Frag) (C : Addr) : Prop where
  cls : Cls K C
  kinds : NoAttr K C "kinds"
  powers : NoAttr K C "powers"
  groups : NoAttr K C "groups"
  changes : NoAttr K C "changes"
abbrev hflds (a b c d : V) : List (Str × V) := [("kinds", a), ("powers", b), ("groups", c), ("changes", d)]
def spHI (K : PySem.W.Frag) (C : Addr) : Sp := fun vs H Q _ => ∃ (x dx : Addr) (a b c d : V), vs = [.ref x, a, b, c, d] ∧ H x = some (.ins C dx []) ∧ Q .non (upd H x (.ins C dx (hflds a b c d)))
theorem ok_Hangs_init {f : Addr} {fd : FuncData} (F : Df K "__init__" "Hangs.__init__" s_Hangs_init f fd) (c : HCl K C) : FnOk P w K mg base CX0 41 f fd ["self", "kinds", "powers", "groups", "changes"] (spHI K C) := by
  refine body_ok F sc_Hangs_init (fun vs H Q E h => by obtain ⟨x, dx, a, b, c, d, rfl, _⟩ := h; rfl) (fun cdv A outer s H vs Q E hr h => ?_)
  obtain ⟨x, dx, a1, b1, c1, d1, rfl, hx, q⟩ := h
  refine ⟨_, (pss_cons (ps_fld (pv 0) (pv 1) rfl)
      (pss_cons (ps_fld (pv 0) (pv 2) rfl)
      (pss_cons (ps_fld (pv 0) (pv 3) rfl)
      (pss_one (ps_fld (pv 0) (pv 4) rfl))))), ?_⟩
  refine ⟨_, rfl, _, rfl, x, C, dx, _, rfl, hx, c.cls, c.kinds, by decide, ?_⟩
  refine ⟨_, rfl, _, rfl, x, C, dx, _, rfl, upd_same, c.cls, c.powers, by show 1 < 1000; decide, ?_⟩
  rw [upd_twice]
  refine ⟨_, rfl, _, rfl, x, C, dx, _, rfl, upd_same, c.cls, c.groups, by show 2 < 1000; decide, ?_⟩
  rw [upd_twice]
  refine ⟨_, rfl, _, rfl, x, C, dx, _, rfl, upd_same, c.cls, c.changes, by show 3 < 1000; decide, ?_⟩
  rw [upd_twice]
  exact q
def spSA (K : PySem.W.Frag) : Sp := fun vs H Q _ => ∃ (v u : V) (A : Mat) (b : List Int) (m w e : Nat) (Y : List Rat → Prop) (N : List Int → Prop), vs = [v, u] ∧ Dp K H v (dM A) ∧ Dp K H u (dI b) ∧ Rect m w A ∧ b.length = w ∧ 0 < m ∧ m ≤ 100 ∧ 0 < w ∧ w ≤ 100 ∧ e ≤ 66900000 ∧ ROk e w m (turnM w A) b Y N ∧
  (∀ sp p v H', Same H H' → Y sp → H p = none → H' p = some (.tup [v, .non]) → Dp K (nw eH H H') v (dRT sp) → Q (.ref p) H') ∧
  ∀ wt p v H', Same H H' → N wt → H p = none → H' p = some (.tup [.non, v]) → Dp K (nw eH H H') v (dRT (rr wt)) → Q (.ref p) H'
theorem ok_span_answer {f : Addr} {fd : FuncData} (F : Df K "span_answer" "span_answer" s_span_answer f fd) (T : Bn mg) (h_turned : Fn P w K mg base 41 "turned" ["rows"] (spTurned K)) (h_pairs_of : Fn P w K mg base 41 "pairs_of" ["rows"] (spPairs K)) (h_ratio_solution : Fn P w K mg base 48 "ratio_solution" ["rows", "right"] (spRS K)) :
    FnOk P w K mg base CX0 49 f fd ["letters", "result"] (spSA K) := by
  refine body_ok F sc_span_answer (fun vs H Q E h => by obtain ⟨v, u, A, b, m, w, e, Y, N, rfl, _⟩ := h; rfl) (fun cdv A outer s H vs Q E hr h => ?_)
  obtain ⟨v, u, A, b, m, n, e, Y, N, rfl, dv, du, R, lb, hm0, hm, hn0, hn, he, ⟨Res, hE, hR⟩, fin1, fin2⟩ := h
  refine ⟨_, (pss_one (ps_ret (pe_fn h_ratio_solution (hr.mono (by decide)) (by rfl) (pa_cons (pe_fn h_pairs_of (hr.mono (by decide)) (by rfl) (pa_cons (pe_fn h_turned (hr.mono (by decide)) (by rfl) (pa_cons (pv 0) pa_nil)) pa_nil)) (pa_cons (pe_lc (own := [("item", 2)]) (by rfl) sc_span_answer.nd (piL (K := K) rfl (pv 1)) (blkOk_by (N := ["letters", "result", "item"]) (sc := defScope s_span_answer) (own := [("item", 2)]) (by decide +kernel)) (fun _ _ _ _ _ => (pg_name (i := 2) sc_span_answer.nd rfl (Or.inl rfl) (Or.inr rfl))) (fun _ _ _ _ _ => pts_nil) (fun _ _ _ _ _ => (pe_tup (pa_cons (pv 2) (pa_cons pe_int pa_nil))))) pa_nil))))), ?_⟩
  have rT : Rect n m (turnM n A) := turn_rect R.1
  refine ⟨_, rfl, ⟨_, A, m, n, rfl, dv, R, hm0, by omega, by omega, fun v1 H1 s1 d1 => ?_⟩⟩
  refine ⟨_, turnM n A, rfl, Dp.up (nw_le (eH_same _)) _ d1, by rw [rT.1]; omega, fun r hr => by rw [rT.2 r hr]; omega, fun v2 H2 s2 d2 => ?_⟩
  have s12 := s1.trans s2
  obtain ⟨p, rfl, qp⟩ := get_ints du
  refine ⟨_, rfl, p, rfl, ⟨_, s12.seq qp⟩, fun D hD => ?_⟩
  refine lc_pairs (s12.seq qp) hD (by omega) (fun u H N go => ⟨rfl, _, rfl, by show 2 ≤ sizeLine; decide, go⟩) fun H3 s3 d3 => ?_
  have s13 := s12.trans s3
  refine ⟨_, _, turnM n A, b, n, m, e, Res, rfl, Dp.up s3 _ (Dp.up (nw_le (eH_same _)) _ d2), Dp.up (nw_le (eH_same _)) _ d3, rT, lb, hn0, hn, hm0, hm, he, hE, fun top lef s L G R' hres => ?_⟩
  obtain ⟨h1, h2, h3⟩ := hR top lef s L G R' hres
  exact ⟨h1, fun hz p v H4 s4 np hp d => fin1 _ p v H4 (s13.trans s4) (h2 hz) (s13.free np) hp (Dp.up (nw_far s13 (Same.refl _)) _ d), fun k k1 k2 k3 p v H4 s4 np hp d => fin2 _ p v H4 (s13.trans s4) (h3 k k1 k2 k3) (s13.free np) hp (Dp.up (nw_far s13 (Same.refl _)) _ d)⟩
def spGA (K : PySem.W.Frag) : Sp := fun vs H Q _ => ∃ (v : V) (N : Mat) (j w : Nat) (G : Hp), vs = [v, .int (j : Int)] ∧ Same G H ∧ Dp K G v (dT N) ∧ (∀ r ∈ N, r.length = w) ∧ N.length ≤ 1000 ∧ j < w ∧ ((∀ r ∈ N, r.getD j 0 = 0) → Q .non H) ∧ ∀ r ∈ N, r.getD j 0 ≠ 0 → ∀ a, Dp K G (.ref a) (dTI r) → Q (.ref a) H
theorem ok_group_at {f : Addr} {fd : FuncData} (F : Df K "group_at" "group_at" s_group_at f fd) : FnOk P w K mg base CX0 41 f fd ["basis", "j"] (spGA K) := by
  refine body_ok F sc_group_at (fun vs H Q E h => by obtain ⟨v, N, j, w, G, rfl, _⟩ := h; rfl) (fun cdv A outer s H vs Q E hr h => ?_)
  obtain ⟨v, N, j, n, G, rfl, sG, dv, hw, hN, hj, fin1, fin2⟩ := h
  obtain ⟨a, xs, rfl, qa0, da⟩ := Dp.tupI dv
  have qa := Same.seqT sG qa0
  have lx : xs.length = N.length := by rw [DpAll.len da, List.length_map]
  refine ⟨_, (pss_cons (ps_for PassesOwn.never rfl (piT (K := K) rfl (pv 0)) (pg_name (i := 2) sc_group_at.nd rfl (Or.inl rfl) (Or.inr rfl))
      (pss_one (ps_if (pt_cmpR op_ne (pe_ix (ixT (K := K) rfl) (pv 2) (pv 1) (fun _ _ => rfl)) pe_int (nomark _)) (pss_one (ps_ret (pv 2))) pss_nil)))
      (pss_one (ps_ret pe_non))), ?_⟩
  refine ⟨_, rfl, a, rfl, ⟨xs, qa⟩, ?_⟩
  refine for_it walk_tup (fun i σ H' => H' = H ∧ ∃ y, σ = [some (.ref a), some (.int (j : Int)), y] ∧ ∀ k, k < i → (N.getD k []).getD j 0 = 0) ⟨rfl, none, rfl, fun k hk => by omega⟩ (fun i σ H' _ ⟨e, _⟩ => e ▸ qa) ?_ ?_
  · rintro i x σ H1 H2 hi ⟨rfl, y, rfl, hz⟩ ⟨rfl, ex⟩
    have hiN : i < N.length := by omega
    obtain ⟨v, h1, h2⟩ := DpAll.get (i := i) (d := dTI (N.getD i [])) da (by rw [List.getElem?_map, getD_at hiN]; rfl)
    cases h1.symm.trans ex
    obtain ⟨p, zs, rfl, qp0, dp⟩ := Dp.tupI h2
    have ez := DpAll.ints_inv dp
    subst ez
    have qp := Same.seqT sG qp0
    have mem : N.getD i [] ∈ N := List.mem_of_getElem? (getD_at hiN)
    have lr : (N.getD i []).length = n := hw _ mem
    refine ⟨_, rfl, _, rfl, p, _, _, _, rfl, rfl, qp, at_of rfl (iv_getD lr hj), rfl, _, rfl, ?_⟩
    by_cases e0 : (N.getD i []).getD j 0 = 0
    · rw [decide_eq_true (congrArg V.int e0)]
      refine ⟨rfl, _, rfl, fun k hk => ?_⟩
      by_cases e : k = i
      · rw [e]; exact e0
      · exact hz k (by omega)
    · rw [decide_eq_false (fun h => e0 (V.int.inj h))]
      exact ⟨_, rfl, fin2 _ mem e0 _ h2⟩
  · rintro σ H1 ⟨rfl, y, rfl, hz⟩
    refine fin1 fun r hr => ?_
    obtain ⟨i, hi, rfl⟩ := List.getElem_of_mem hr
    have := hz i (by omega)
    rwa [show N.getD i [] = N[i] by simp [List.getD_eq_getElem?_getD, hi]] at this
def spCh (K : PySem.W.Frag) : Sp := fun vs H Q _ => ∃ (v : V) (A : Mat) (j m w e : Nat) (Y : List Rat → Prop), vs = [v, .int (j : Int)] ∧ Dp K H v (dM A) ∧ Rect m w A ∧ 0 < m ∧ m ≤ 100 ∧ 0 < w ∧ w ≤ 100 ∧ e ≤ 66900000 ∧ ROk e m w A (unitv m j) Y (fun _ => False) ∧ (∀ sp, Y sp → IntsFit sp) ∧
  ∀ sp v H', Same H H' → Y sp → Dp K (nw eH H H') v (dTI (intsOf sp)) → Q v H'
theorem ok_change_at {f : Addr} {fd : FuncData} (F : Df K "change_at" "change_at" s_change_at f fd) (T : Bn mg) (h_pairs_of : Fn P w K mg base 41 "pairs_of" ["rows"] (spPairs K)) (h_ratio_solution : Fn P w K mg base 48 "ratio_solution" ["rows", "right"] (spRS K)) (h_integers : Fn P w K mg base 43 "integers" ["row"] (spInts K)) :
    FnOk P w K mg base CX0 49 f fd ["letters", "j"] (spCh K) := by
  refine body_ok F sc_change_at (fun vs H Q E h => by obtain ⟨v, A, j, m, w, e, Y, rfl, _⟩ := h; rfl) (fun cdv A outer s H vs Q E hr h => ?_)
  obtain ⟨v, A, j, m, n, e, Y, rfl, dv, R, hm0, hm, hn0, hn, he, ⟨Res, hE, hR⟩, hI, fin⟩ := h
  obtain ⟨a, xs, rfl, hS, hl, hrow⟩ := get_rows dv
  have lA : A.length = m := R.1
  refine ⟨_, (pss_cons (ps_setLc (i := 2) (own := [("k", 3)]) (by rfl) sc_change_at.nd rfl rfl (sw_true rfl rfl rfl (by decide +kernel)) (pi_range1 (by rfl) T.range (pa_cons (pe_callB (lenS (K := K) rfl) (by rfl) T.len (by decide +kernel) (pa_cons (pv 0) pa_nil)) pa_nil)) (blkOk_by (N := ["letters", "j", "right", "k"]) (sc := defScope s_change_at) (own := [("k", 3)]) (by decide +kernel)) (fun _ _ _ _ _ => (pg_name (i := 3) sc_change_at.nd rfl (Or.inl rfl) (Or.inr rfl))) (fun _ _ _ _ _ => pts_nil) (fun _ _ _ _ _ => (pe_tup (pa_cons (pe_callTy call_int1 (by rfl) T.int (by decide +kernel) (pa_cons (pe_cmpR op_eq (pv 3) (pv 1) (nomark _)) pa_nil)) (pa_cons pe_int pa_nil)))))
      (pss_one (ps_ret (pe_callTy (tupO (K := K) rfl) (by rfl) T.tuple (by decide +kernel) (pa_cons (pe_fn h_integers (hr.mono (by decide)) (by rfl) (pa_cons (pe_ix (ixT (K := K) rfl) (pe_fn h_ratio_solution (hr.mono (by decide)) (by rfl) (pa_cons (pe_fn h_pairs_of (hr.mono (by decide)) (by rfl) (pa_cons (pv 0) pa_nil)) (pa_cons (pv 2) pa_nil))) pe_int (fun _ _ => rfl)) pa_nil)) pa_nil))))), ?_⟩
  have lu : (unitv m j).length = m := by simp [unitv]
  refine ⟨_, rfl, a, xs, rfl, .inl hS, m, by rw [hl, lA], by omega, by omega, fun D hD => ?_⟩
  refine lc_map (n := m) walk_range hD (fun i v G => i < m ∧ Dp K (nw eH H G) v (dR (((if i = j then 1 else 0 : Int)) : Rat))) (fun i v G G' s d => ⟨d.1, Dp.up (nw_mono s) _ d.2⟩) (by omega) (fun _ _ => trivial) ?_ ?_
  · rintro i x H1 H2 hi s1 hD1 ⟨rfl, rfl⟩ N go
    refine ⟨rfl, _, rfl, _, rfl, rfl, .inr ⟨_, rfl, ?_⟩⟩
    have ev : (if decide (V.int (0 + (i : Int)) = V.int (j : Int)) = true then (1 : Int) else 0) = if i = j then 1 else 0 := by
      by_cases e : i = j
      · subst e
        rw [if_pos rfl, if_pos (decide_eq_true (by rw [Int.zero_add]))]
      · rw [if_neg e, if_neg]
        intro z
        have := V.int.inj (of_decide_eq_true z)
        omega
    rw [ev]
    refine ⟨by show 2 ≤ sizeLine; decide, fun Z hZ => go _ _ (same_new hZ) ⟨hi, mk_rat (s1.free hZ) ?_⟩⟩
    rw [wo_at (ne_new hD1 hZ), upd_same]
    rfl
  intro H1 ys s1 f1 f2 f3
  have dD : Dp K H1 (.ref D) (dRs (rr (unitv m j))) := .lst (sqL f1) (DpAll.of (by rw [f2, List.length_map, List.length_map, lu]) fun i v d hv hd => by
    obtain ⟨hi, d2⟩ := f3 i v hv
    unfold unitv at hd
    rw [List.getElem?_map, List.getElem?_map, List.getElem?_map, List.getElem?_range hi] at hd
    cases hd
    exact Dp.up (nw_le (eH_same _)) _ (Dp.up (nw_mono wo_le) _ d2))
  refine ⟨_, rfl, ?_⟩
  refine ⟨_, A, rfl, Dp.up s1 _ dv, by omega, fun r hr => by rw [R.2 r hr]; omega, fun v2 H2 s2 d2 => ?_⟩
  refine ⟨_, rfl, ?_⟩
  have s12 := s1.trans s2
  refine ⟨_, _, A, unitv m j, m, n, e, Res, rfl, Dp.up (nw_le (eH_same _)) _ d2, Dp.up s2 _ dD, R, lu, hm0, hm, hn0, hn, he, hE, fun top lef s L G R' hres => ?_⟩
  obtain ⟨h1, h2, h3⟩ := hR top lef s L G R' hres
  refine ⟨h1, fun hz p v H3 s3 np hp d3 => ?_, fun k k1 k2 k3 => (h3 k k1 k2 k3).elim⟩
  have hY := h2 hz
  revert hY d3
  generalize spotOf R' s n (valsOf L G s (sidesOf lef m (rr (unitv m j)))) = sp
  intro d3 hY
  have IF := hI sp hY
  refine ⟨p, _, 0, _, rfl, rfl, sqT hp, rfl, ?_⟩
  have s13 := s12.trans s3
  refine ⟨_, sp, rfl, .inr (Dp.up (nw_le (eH_same _)) _ d3), IF.len, IF.run, IF.all, fun q H4 s4 nq hq => ?_⟩
  refine ⟨q, _, rfl, .inl ⟨sqL hq, fun Z hZ => ?_⟩⟩
  have s14 := s13.trans s4
  exact fin sp _ _ (s14.trans (same_new hZ)) hY (.tup (sqT (by rw [nw_new (s14.free hZ)]; exact upd_same)) (DpAll.ints _))
end
end K51W

set_option maxHeartbeats 4000000
/-! hangs. -/
namespace K51W
open PySem PySem.Spec PyProof.Rows L2 K51
def dKind : Ltr → PyData
  | .free _ => .str (Str.ofString "free")
  | .held p _ => .str (if p.num = 0 then Str.ofString "none" else Str.ofString "fixed")
def dPow : Ltr → PyData
  | .free _ => .none
  | .held p _ => dR p
def dGrp : Ltr → PyData
  | .free g => dTI g
  | .held _ _ => .none
def dChg : Ltr → PyData
  | .free _ => .none
  | .held _ c => dTI c
theorem nw_updg {G H0 H : Hp} {x : Addr} {o : HO} (h : H0 x ≠ none) : Same (nw G H0 H) (nw G H0 (upd H x o)) := fun b u e => by
  cases q : H0 b with
  | none =>
    rw [nw_new q] at e ⊢
    rw [upd_ne (fun z : b = x => h (by rw [← z]; exact q))]
    exact e
  | some v => rw [nw_old q] at e ⊢; exact e
/-- four lists that grow -/
structure Four (K : PySem.W.Frag) (G H0 H : Hp) (F : Nat → Addr) (X : Nat → List V) (D : Nat → List PyData) : Prop where
  sb : Same G H
  dom : ∀ q, H q = none → H0 q = none
  at_ : ∀ i, i < 4 → H (F i) = some (.lst (X i))
  dat : ∀ i, i < 4 → DpAll K (nw G H0 H) (X i) (D i)
  inj : ∀ i j, i < 4 → j < 4 → F i = F j → i = j
  old : ∀ i, i < 4 → H0 (F i) ≠ none ∧ G (F i) = none
theorem Four.same {K : PySem.W.Frag} {G H0 H H' : Hp} {F : Nat → Addr} {X : Nat → List V} {D : Nat → List PyData} (h : Four K G H0 H F X D) (s : Same H H') : Four K G H0 H' F X D where
  sb := h.sb.trans s
  dom := fun q e => h.dom q (s.free e)
  at_ := fun i hi => s _ _ (h.at_ i hi)
  dat := fun i hi => DpAll.up (nw_mono s) _ (h.dat i hi)
  inj := h.inj
  old := h.old
theorem Four.app {K : PySem.W.Frag} {G H0 H : Hp} {F : Nat → Addr} {X : Nat → List V} {D : Nat → List PyData} (h : Four K G H0 H F X D) {i : Nat} (hi : i < 4) {y : V} {d : PyData} (hy : Dp K (nw G H0 H) y d) :
    Four K G H0 (upd H (F i) (.lst (X i ++ [y]))) F (fun t => if t = i then X i ++ [y] else X t) (fun t => if t = i then D i ++ [d] else D t) where
  sb := same_mut h.sb (h.old i hi).2
  dom := fun q e => h.dom q (upd_free e)
  at_ := fun t ht => by
    by_cases e : t = i
    · simp only [if_pos e]
      rw [e, upd_same]
    · simp only [if_neg e]
      rw [upd_ne (fun z => e (h.inj t i ht hi z))]
      exact h.at_ t ht
  dat := fun t ht => by
    have up := nw_updg (G := G) (H := H) (o := .lst (X i ++ [y])) (h.old i hi).1
    by_cases e : t = i
    · simp only [if_pos e]
      exact DpAll.snoc (Dp.up up _ hy) (DpAll.up up _ (h.dat i hi))
    · simp only [if_neg e]
      exact DpAll.up up _ (h.dat t ht)
  inj := h.inj
  old := h.old
section
variable {P : Program} {w : World} {K : PySem.W.Frag} {mg : Str → Option Value} {base : Heap} {CE CZ CH : Addr}
def spHa (K : PySem.W.Frag) (CZ CH : Addr) : Sp := fun vs H Q _ => ∃ (v u : V) (A : Mat) (b : List Int) (m w e : Nat) (Z : List Int → Prop) (L : List Ltr → Prop), vs = [v, u] ∧ RowsS K H v A ∧ IntsS K H u b ∧ Rect m w A ∧ b.length = w ∧ 0 < m ∧ m ≤ 100 ∧ 0 < w ∧ w ≤ 100 ∧ e ≤ 66900000 ∧ HOk e m w A b Z L ∧
  (∀ c x dx v H', Same H H' → Z c → H' x = some (.ins CZ dx [("change", v)]) → Dp K H' v (dTI c) → Q (.ref x) H') ∧
  ∀ ls x dx a1 a2 a3 a4 H', Same H H' → L ls → ls.length = m → H' x = some (.ins CH dx (hflds a1 a2 a3 a4)) → Dp K H' a1 (.tuple (ls.map dKind)) → Dp K H' a2 (.tuple (ls.map dPow)) → Dp K H' a3 (.tuple (ls.map dGrp)) → Dp K H' a4 (.tuple (ls.map dChg)) → Q (.ref x) H'
theorem ok_hangs {f : Addr} {fd : FuncData} (F : Df K "hangs" "hangs" s_hangs f fd) (T : Bn mg) (h_told_exponents : Fn P w K mg base 42 "told_exponents" ["exponents"] (spTE K)) (h_told_result : Fn P w K mg base 42 "told_result" ["result", "many"] (spTRes K))
    (h_span_answer : Fn P w K mg base 49 "span_answer" ["letters", "result"] (spSA K)) (h_integers : Fn P w K mg base 43 "integers" ["row"] (spInts K)) (h_kernel_of : Fn P w K mg base 46 "kernel_of" ["rows"] (spKer K)) (h_turned : Fn P w K mg base 41 "turned" ["rows"] (spTurned K))
    (h_group_at : Fn P w K mg base 41 "group_at" ["basis", "j"] (spGA K)) (h_change_at : Fn P w K mg base 49 "change_at" ["letters", "j"] (spCh K)) (k_Zero : Mc P w K mg base 41 "Zero" CZ ["self", "change"] (spZI K CZ)) (k_Hangs : Mc P w K mg base 41 "Hangs" CH ["self", "kinds", "powers", "groups", "changes"] (spHI K CH)) :
    FnOk P w K mg base CX0 50 f fd ["exponents", "result"] (spHa K CZ CH) := by
  refine body_ok F sc_hangs (fun vs H Q E h => by obtain ⟨v, u, A, b, m, w, e, Y, N, rfl, _⟩ := h; rfl) (fun cdv A outer s H vs Q E hr h => ?_)
  obtain ⟨v, u, A, b, m, n, e, Z, L, rfl, dv, du, R, lb, hm0, hm, hn0, hn, he, ⟨Y, N, hR, hN, hY⟩, fin1, fin2⟩ := h
  refine ⟨_, (pss_cons (ps_set (i := 2) sc_hangs.nd rfl (Or.inl rfl) (pe_fn h_told_exponents (hr.mono (by decide)) (by rfl) (pa_cons (pv 0) pa_nil)))
      (pss_cons (ps_asg (pe_fn h_span_answer (hr.mono (by decide)) (by rfl) (pa_cons (pv 2) (pa_cons (pe_fn h_told_result (hr.mono (by decide)) (by rfl) (pa_cons (pv 1) (pa_cons (pe_callB (lenS (K := K) rfl) (by rfl) T.len (by decide +kernel) (pa_cons (pe_ix (ixL (K := K) rfl) (pv 2) pe_int (fun _ _ => rfl)) pa_nil)) pa_nil))) pa_nil))) (tupG (K := K) (n := 2) rfl rfl (pgs_cons (pg_name (i := 3) sc_hangs.nd rfl (Or.inl rfl) (Or.inr rfl)) (pgs_cons (pg_name (i := 4) sc_hangs.nd rfl (Or.inl rfl) (Or.inr rfl)) pgs_nil)) rfl rfl))
      (pss_cons (ps_if (pt_cmp (pc_isN (pv 3))) (pss_one (ps_ret (pe_mkc k_Zero (hr.mono (by decide)) (by rfl) (pa_cons (pe_callTy (tupO (K := K) rfl) (by rfl) T.tuple (by decide +kernel) (pa_cons (pe_fn h_integers (hr.mono (by decide)) (by rfl) (pa_cons (pv 4) pa_nil)) pa_nil)) pa_nil)))) pss_nil)
      (pss_cons (ps_set (i := 5) sc_hangs.nd rfl (Or.inl rfl) (pe_fn h_kernel_of (hr.mono (by decide)) (by rfl) (pa_cons (pe_fn h_turned (hr.mono (by decide)) (by rfl) (pa_cons (pv 2) pa_nil)) pa_nil)))
      (pss_cons (ps_asg (pe_tup (pa_cons (pe_lst pa_nil) (pa_cons (pe_lst pa_nil) (pa_cons (pe_lst pa_nil) (pa_cons (pe_lst pa_nil) pa_nil))))) (tupG (K := K) (n := 4) rfl rfl (pgs_cons (pg_name (i := 6) sc_hangs.nd rfl (Or.inl rfl) (Or.inr rfl)) (pgs_cons (pg_name (i := 7) sc_hangs.nd rfl (Or.inl rfl) (Or.inr rfl)) (pgs_cons (pg_name (i := 8) sc_hangs.nd rfl (Or.inl rfl) (Or.inr rfl)) (pgs_cons (pg_name (i := 9) sc_hangs.nd rfl (Or.inl rfl) (Or.inr rfl)) pgs_nil)))) rfl rfl))
      (pss_cons (ps_for PassesOwn.never rfl (pi_range1 (by rfl) T.range (pa_cons (pe_callB (lenS (K := K) rfl) (by rfl) T.len (by decide +kernel) (pa_cons (pv 2) pa_nil)) pa_nil)) (pg_name (i := 10) sc_hangs.nd rfl (Or.inl rfl) (Or.inr rfl))
      (pss_cons (ps_set (i := 11) sc_hangs.nd rfl (Or.inl rfl) (pe_fn h_group_at (hr.mono (by decide)) (by rfl) (pa_cons (pv 5) (pa_cons (pv 10) pa_nil))))
      (pss_cons (ps_expr (pe_bm PySem.F.plainAttrs_list PySem.F.slot_list_append PySem.F.type_list_append mt_append (pv 6) (pa_cons (pe_ifExp (pt_cmp (pc_notN (pv 11))) pe_str (pe_ifExp (pt_cmpR op_ne (pe_ix (ixT (K := K) rfl) (pe_ix (ixT (K := K) rfl) (pv 3) (pv 10) (fun _ _ => rfl)) pe_int (fun _ _ => rfl)) pe_int (nomark _)) pe_str pe_str)) pa_nil)))
      (pss_cons (ps_expr (pe_bm PySem.F.plainAttrs_list PySem.F.slot_list_append PySem.F.type_list_append mt_append (pv 7) (pa_cons (pe_ifExp (pt_cmp (pc_isN (pv 11))) (pe_ix (ixT (K := K) rfl) (pv 3) (pv 10) (fun _ _ => rfl)) pe_non) pa_nil)))
      (pss_cons (ps_expr (pe_bm PySem.F.plainAttrs_list PySem.F.slot_list_append PySem.F.type_list_append mt_append (pv 8) (pa_cons (pv 11) pa_nil)))
      (pss_one (ps_expr (pe_bm PySem.F.plainAttrs_list PySem.F.slot_list_append PySem.F.type_list_append mt_append (pv 9) (pa_cons (pe_ifExp (pt_cmp (pc_isN (pv 11))) (pe_fn h_change_at (hr.mono (by decide)) (by rfl) (pa_cons (pv 2) (pa_cons (pv 10) pa_nil))) pe_non) pa_nil)))))))))
      (pss_one (ps_ret (pe_mkc k_Hangs (hr.mono (by decide)) (by rfl) (pa_cons (pe_callTy (tupO (K := K) rfl) (by rfl) T.tuple (by decide +kernel) (pa_cons (pv 6) pa_nil)) (pa_cons (pe_callTy (tupO (K := K) rfl) (by rfl) T.tuple (by decide +kernel) (pa_cons (pv 7) pa_nil)) (pa_cons (pe_callTy (tupO (K := K) rfl) (by rfl) T.tuple (by decide +kernel) (pa_cons (pv 8) pa_nil)) (pa_cons (pe_callTy (tupO (K := K) rfl) (by rfl) T.tuple (by decide +kernel) (pa_cons (pv 9) pa_nil)) pa_nil))))))))))))), ?_⟩
  refine ⟨_, rfl, ?_⟩
  refine ⟨v, A, m, n, rfl, dv, R, hm0, hm, hn0, hn, fun v1 H1 s1 d1 => ?_⟩
  have dl := Dp.up (nw_le (eH_same _)) _ d1
  obtain ⟨a, xs, rfl, hS, hl, hrow⟩ := get_rows dl
  have lA : A.length = m := R.1
  obtain ⟨p0, g0, q0⟩ := hrow 0 _ (getD_at (by rw [lA]; exact hm0))
  have lr0 : (A.getD 0 []).length = n := R.row hm0
  obtain ⟨pu, rfl, qu⟩ := du
  refine ⟨_, rfl, _, rfl, _, rfl, a, xs, 0, _, rfl, rfl, hS, atI_nat (j := 0) g0, p0, _, rfl, .inl q0, ?_⟩
  refine ⟨_, b, congrArg (fun z : Nat => [V.ref pu, V.int (z : Int)]) (by rw [List.length_map, lr0, lb] : (iv (A.getD 0 [])).length = b.length), ⟨pu, rfl, SqS.same s1 qu⟩, by omega, fun v2 H2 s2 d2 => ?_⟩
  refine ⟨_, _, A, b, m, n, e, Y, N, rfl, Dp.up s2 _ dl, Dp.up (nw_le (eH_same _)) _ d2, R, lb, hm0, hm, hn0, hn, he, hR, fun sp p v H3 s3 hYs np hp d3 => ?_, fun wt p v H3 s3 hNw np hp d3 => ?_⟩
  · obtain ⟨sv, zs, rfl, qz, dz⟩ := Dp.tupI (Dp.up (nw_le (eH_same _)) _ d3)
    refine ⟨p, [.ref sv, .non], rfl, sqT hp, rfl, _, _, rfl, _, _, rfl, rfl, ?_⟩
    refine ⟨_, rfl, _, rfl, ?_⟩
    dsimp only [if_false, tNext]
    obtain ⟨lsp, Rk, hK, hRk⟩ := hY sp hYs
    have s13 := s2.trans s3
    have s03 := s1.trans s13
    refine ⟨_, rfl, ?_⟩
    refine ⟨_, A, m, n, rfl, Dp.up s13 _ dl, R, hm0, by omega, by omega, fun v4 H4 s4 d4 => ?_⟩
    refine ⟨_, turnM n A, n, m, e, Rk, rfl, Dp.up (nw_le (eH_same _)) _ d4, turn_rect lA, hn0, by omega, hm0, by omega, he, hK, fun B H5 v5 s5 hRB d5 => ?_⟩
    obtain ⟨hBl, hBn, Yc, hYc, hL⟩ := hRk B hRB
    have s35 := s4.trans s5
    have s15 := s13.trans s35
    have s05 := s1.trans s15
    have dB := Dp.up (nw_le (eH_same _)) _ d5
    -- the four lists
    refine ⟨by show 0 ≤ sizeLine; decide, fun z1 hz1 => ⟨by show 0 ≤ sizeLine; decide, fun z2 hz2 => ⟨by show 0 ≤ sizeLine; decide, fun z3 hz3 => ⟨by show 0 ≤ sizeLine; decide, fun z4 hz4 => ⟨by show 4 ≤ sizeLine; decide, fun pt hpt => ?_⟩⟩⟩⟩⟩
    refine ⟨pt, [.ref z1, .ref z2, .ref z3, .ref z4], rfl, sqT upd_same, rfl, _, _, rfl, _, _, rfl, _, _, rfl, _, _, rfl, rfl, ?_⟩
    have t1 := same_new (o := .lst []) hz1
    have t2 := same_new (o := .lst []) hz2
    have t3 := same_new (o := .lst []) hz3
    have t4 := same_new (o := .lst []) hz4
    have t5 := same_new (o := .tup [.ref z1, .ref z2, .ref z3, .ref z4]) hpt
    have c1 := t5 _ _ (t4 _ _ (t3 _ _ (t2 _ _ (upd_same : upd H5 z1 (.lst []) z1 = _))))
    have c2 := t5 _ _ (t4 _ _ (t3 _ _ (upd_same : upd (upd H5 z1 (.lst [])) z2 (.lst []) z2 = _)))
    have c3 := t5 _ _ (t4 _ _ (upd_same : upd (upd (upd H5 z1 (.lst [])) z2 (.lst [])) z3 (.lst []) z3 = _))
    have c4 := t5 _ _ (upd_same : upd (upd (upd (upd H5 z1 (.lst [])) z2 (.lst [])) z3 (.lst [])) z4 (.lst []) z4 = _)
    have f1 := hz1
    have f2 := t1.free hz2
    have f3 := t1.free (t2.free hz3)
    have f4 := t1.free (t2.free (t3.free hz4))
    have n12 : z1 ≠ z2 := ne_of_none (upd_same : upd H5 z1 (.lst []) z1 = _) hz2
    have n13 : z1 ≠ z3 := ne_of_none (t2 _ _ (upd_same : upd H5 z1 (.lst []) z1 = _)) hz3
    have n14 : z1 ≠ z4 := ne_of_none (t3 _ _ (t2 _ _ (upd_same : upd H5 z1 (.lst []) z1 = _))) hz4
    have n23 : z2 ≠ z3 := ne_of_none (upd_same : upd (upd H5 z1 (.lst [])) z2 (.lst []) z2 = _) hz3
    have n24 : z2 ≠ z4 := ne_of_none (t3 _ _ (upd_same : upd (upd H5 z1 (.lst [])) z2 (.lst []) z2 = _)) hz4
    have n34 : z3 ≠ z4 := ne_of_none (upd_same : upd (upd (upd H5 z1 (.lst [])) z2 (.lst [])) z3 (.lst []) z3 = _) hz4
    have t15 := t1.trans (t2.trans (t3.trans (t4.trans t5)))
    revert c1 c2 c3 c4 t15
    generalize upd (upd (upd (upd (upd H5 z1 (.lst [])) z2 (.lst [])) z3 (.lst [])) z4 (.lst [])) pt (.tup [.ref z1, .ref z2, .ref z3, .ref z4]) = H6
    intro c1 c2 c3 c4 t15
    clear hz1 hz2 hz3 hz4 t1 t2 t3 t4 t5 hpt
    obtain ⟨F, e0, e1, e2, e3⟩ : ∃ F : Nat → Addr, F 0 = z1 ∧ F 1 = z2 ∧ F 2 = z3 ∧ F 3 = z4 := ⟨fun t => if t = 0 then z1 else if t = 1 then z2 else if t = 2 then z3 else z4, rfl, rfl, rfl, rfl⟩
    subst e0 e1 e2 e3
    have four : Four K H5 H6 H6 F (fun _ => []) (fun _ => []) := by
      have cs : ∀ {i : Nat} {P : Nat → Prop}, i < 4 → P 0 → P 1 → P 2 → P 3 → P i := fun {i P} hi p0 p1 p2 p3 => by
        rcases (show i = 0 ∨ i = 1 ∨ i = 2 ∨ i = 3 by omega) with rfl | rfl | rfl | rfl
        · exact p0
        · exact p1
        · exact p2
        · exact p3
      refine ⟨t15, fun q e => e, fun i hi => cs (P := fun i => H6 (F i) = some (.lst [])) hi c1 c2 c3 c4, fun i _ => .nil, fun i j hi hj e => ?_, fun i hi => ⟨fun z => ?_, cs (P := fun i => H5 (F i) = none) hi f1 f2 f3 f4⟩⟩
      · rcases (show i = 0 ∨ i = 1 ∨ i = 2 ∨ i = 3 by omega) with rfl | rfl | rfl | rfl <;> rcases (show j = 0 ∨ j = 1 ∨ j = 2 ∨ j = 3 by omega) with rfl | rfl | rfl | rfl
        · rfl
        · exact absurd e n12
        · exact absurd e n13
        · exact absurd e n14
        · exact absurd e.symm n12
        · rfl
        · exact absurd e n23
        · exact absurd e n24
        · exact absurd e.symm n13
        · exact absurd e.symm n23
        · rfl
        · exact absurd e n34
        · exact absurd e.symm n14
        · exact absurd e.symm n24
        · exact absurd e.symm n34
        · rfl
      · have := cs (P := fun i => H6 (F i) = some (.lst [])) hi c1 c2 c3 c4
        rw [z] at this
        cases this
    -- the walk over the letters
    have lz : zs.length = m := by rw [DpAll.len dz, List.length_map, lsp]
    have s16 := s15.trans t15
    have qz5 : SqT K H5 sv zs := Same.seqT s35 qz
    refine ⟨_, rfl, a, xs, rfl, .inl (s16.seq hS), m, by rw [hl, lA], by omega, by omega, ?_⟩
    refine for_it walk_range (fun i σ H' => ∃ (X : Nat → List V) (D : Nat → List PyData) (ls : List Ltr) (y10 y11 : Option V), σ = [some v, some (.ref pu), some (.ref a), some (.ref sv), some .non, some v5, some (.ref (F 0)), some (.ref (F 1)), some (.ref (F 2)), some (.ref (F 3)), y10, y11] ∧
      Four K H5 H6 H' F X D ∧ D 0 = ls.map dKind ∧ D 1 = ls.map dPow ∧ D 2 = ls.map dGrp ∧ D 3 = ls.map dChg ∧ ls.length = i ∧ ∀ (j : Nat) (l : Ltr), ls[j]? = some l → GoodL sp B Yc j l)
      ⟨_, _, [], none, none, rfl, four, rfl, rfl, rfl, rfl, rfl, fun j l e => by simp at e⟩ (fun _ _ _ _ _ => trivial) ?_ ?_
    · rintro i xv σ H7 H8 hi ⟨X, D, ls, y10, y11, rfl, four, d0, d1', d2', d3', ll, lg⟩ ⟨rfl, rfl⟩
      have him : i < m := by omega
      have ei : (0 : Int) + (i : Int) = (i : Int) := by omega
      have st := four.sb
      have lX : ∀ t, t < 4 → (X t).length = i := fun t ht => by
        rw [DpAll.len (four.dat t ht)]
        rcases (show t = 0 ∨ t = 1 ∨ t = 2 ∨ t = 3 by omega) with rfl | rfl | rfl | rfl
        · rw [d0, List.length_map, ll]
        · rw [d1', List.length_map, ll]
        · rw [d2', List.length_map, ll]
        · rw [d3', List.length_map, ll]
      have sl : i < sizeLine := Nat.lt_of_lt_of_le (by omega : i < 100000) (by decide)
      have G5 := nw_ge (H := H8) t15
      have lsg : ∀ (l : Ltr), GoodL sp B Yc i l → ∀ (j : Nat) (l' : Ltr), (ls ++ [l])[j]? = some l' → GoodL sp B Yc j l' := fun l hl j l' e => by
        rcases Nat.lt_trichotomy j ls.length with q | q | q
        · rw [List.getElem?_append_left q] at e
          exact lg j l' e
        · rw [q, List.getElem?_append_right (Nat.le_refl _)] at e
          simp at e
          rw [q, ll, ← e]
          exact hl
        · rw [List.getElem?_append_right (by omega), List.getElem?_eq_none (by simp; omega)] at e
          cases e
      refine ⟨_, rfl, _, rfl, ?_⟩
      refine ⟨_, B, i, m, H5, congrArg (fun z => [v5, V.int z]) ei, st, dB, hBl, hBn, him, fun hz0 => ?_, fun r hr hr0 ga dga => ?_⟩
      · obtain ⟨pj, gz⟩ : ∃ pj, zs[i]? = some pj := ⟨_, List.getElem?_eq_getElem (by omega)⟩
        obtain ⟨rj, q, hrj, rfl, qj⟩ := rats_get dz gz
        have er : sp.getD i 0 = rj := by simp [List.getD_eq_getElem?_getD, hrj]
        have qj5 : SqT K H5 q (rp rj) := Same.seqT s35 qj
        obtain ⟨hYi, hFit⟩ := hYc i him hz0
        -- kinds
        dsimp only [gName]
        refine seq_cut (fun σ H' => σ = [some v, some (.ref pu), some (.ref a), some (.ref sv), some .non, some v5, some (.ref (F 0)), some (.ref (F 1)), some (.ref (F 2)), some (.ref (F 3)), some (.int (0 + (i : Int))), some .non] ∧
          ∃ X1, Four K H5 H6 H' F X1 (fun t => if t = 0 then D 0 ++ [dKind (.held rj [])] else D t) ∧ X1 1 = X 1 ∧ X1 2 = X 2 ∧ X1 3 = X 3) (fun Nx hNx => ?_) ?_
        · refine ⟨_, rfl, .inl ⟨rfl, _, sqL (four.at_ 0 (by decide))⟩, _, rfl, _, rfl, ?_⟩
          dsimp only [if_false]
          refine ⟨_, rfl, _, rfl, sv, zs, _, _, rfl, rfl, Same.seqT st qz5, at_of ei gz, q, _, _, _, rfl, rfl, Same.seqT st qj5, at0 rj, rfl, _, rfl, ?_⟩
          by_cases en : rj.num = 0
          · rw [decide_eq_true (congrArg V.int en)]
            refine ⟨F 0, X 0, _, rfl, rfl, four.at_ 0 (by decide), by rw [lX 0 (by decide)]; exact sl, ?_⟩
            refine hNx _ _ ⟨rfl, _, four.app (i := 0) (by decide) (d := dKind (.held rj [])) ?_, rfl, rfl, rfl⟩
            show Dp K _ _ (.str (if rj.num = 0 then _ else _))
            rw [if_pos en]
            exact .str _
          · rw [decide_eq_false (fun h => en (V.int.inj h))]
            refine ⟨F 0, X 0, _, rfl, rfl, four.at_ 0 (by decide), by rw [lX 0 (by decide)]; exact sl, ?_⟩
            refine hNx _ _ ⟨rfl, _, four.app (i := 0) (by decide) (d := dKind (.held rj [])) ?_, rfl, rfl, rfl⟩
            show Dp K _ _ (.str (if rj.num = 0 then _ else _))
            rw [if_neg en]
            exact .str _
        · rintro σ2 H9 ⟨rfl, X1, four1, x1, x2, x3⟩
          have st1 := four1.sb
          -- powers
          refine ⟨_, rfl, .inl ⟨rfl, _, sqL (four1.at_ 1 (by decide))⟩, _, rfl, _, rfl, ?_⟩
          dsimp only [if_true]
          refine ⟨_, rfl, _, rfl, sv, zs, _, _, rfl, rfl, Same.seqT st1 qz5, at_of ei gz, ?_⟩
          refine ⟨F 1, X1 1, _, rfl, rfl, four1.at_ 1 (by decide), by rw [x1, lX 1 (by decide)]; exact sl, ?_⟩
          have four2 := four1.app (i := 1) (by decide) (y := .ref q) (d := dPow (.held rj [])) (.tup (Same.seqT (nw_ge t15) qj5) (.cons (.int _) (.cons (.int _) .nil)))
          -- groups
          refine ⟨_, rfl, .inl ⟨rfl, _, sqL (four2.at_ 2 (by decide))⟩, _, rfl, F 2, X1 2, _, rfl, rfl, four2.at_ 2 (by decide), by rw [x2, lX 2 (by decide)]; exact sl, ?_⟩
          have four3 := four2.app (i := 2) (by decide) (y := .non) (d := dGrp (.held rj [])) .non
          -- changes
          refine ⟨_, rfl, .inl ⟨rfl, _, sqL (four3.at_ 3 (by decide))⟩, _, rfl, _, rfl, ?_⟩
          dsimp only [if_true]
          refine ⟨_, rfl, _, rfl, ?_⟩
          refine ⟨_, A, i, m, n, e, Yc i, congrArg (fun z => [V.ref a, V.int z]) ei, Dp.up (s15.trans four3.sb) _ dl, R, hm0, hm, hn0, hn, he, hYi, hFit, fun s' v9 H10 s10 hY9 d9 => ?_⟩
          have four4 := four3.same s10
          refine ⟨F 3, X1 3, v9, rfl, rfl, four4.at_ 3 (by decide), by rw [x3, lX 3 (by decide)]; exact sl, ?_⟩
          have up : ∀ b o, nw eH _ H10 b = some o → nw H5 H6 H10 b = some o := fun b o h => by
            cases q : (upd (upd H9 (F 1) (.lst (X1 1 ++ [.ref q]))) (F 2) (.lst (X1 2 ++ [.non]))) b with
            | none =>
              rw [nw_new q] at h
              rw [nw_new (four3.dom b q)]
              exact h
            | some o2 => rw [nw_old q] at h; cases h
          have four5 := four4.app (i := 3) (by decide) (y := v9) (d := dChg (.held rj (intsOf s'))) (Dp.up up _ d9)
          refine ⟨_, _, ls ++ [.held rj (intsOf s')], _, _, rfl, four5, ?_, ?_, ?_, ?_, by rw [List.length_append, ll]; rfl, lsg (.held rj (intsOf s')) ⟨er.symm, hz0, s', hY9, rfl⟩⟩
          · show D 0 ++ [_] = _
            rw [d0, List.map_append]; rfl
          · show D 1 ++ [_] = _
            rw [d1', List.map_append]; rfl
          · show D 2 ++ [_] = _
            rw [d2', List.map_append]; rfl
          · show D 3 ++ [_] = _
            rw [d3', List.map_append]; rfl
      · -- free
        refine ⟨_, rfl, .inl ⟨rfl, _, sqL (four.at_ 0 (by decide))⟩, _, rfl, _, rfl, ?_⟩
        dsimp only [if_true]
        refine ⟨F 0, X 0, _, rfl, rfl, four.at_ 0 (by decide), by rw [lX 0 (by decide)]; exact sl, ?_⟩
        have four1 := four.app (i := 0) (by decide) (y := .str (Str.ofString "free")) (d := dKind (.free r)) (.str _)
        refine ⟨_, rfl, .inl ⟨rfl, _, sqL (four1.at_ 1 (by decide))⟩, _, rfl, _, rfl, ?_⟩
        dsimp only [if_false]
        refine ⟨F 1, X 1, _, rfl, rfl, four1.at_ 1 (by decide), by rw [lX 1 (by decide)]; exact sl, ?_⟩
        have four2 := four1.app (i := 1) (by decide) (y := .non) (d := dPow (.free r)) .non
        refine ⟨_, rfl, .inl ⟨rfl, _, sqL (four2.at_ 2 (by decide))⟩, _, rfl, F 2, X 2, _, rfl, rfl, four2.at_ 2 (by decide), by rw [lX 2 (by decide)]; exact sl, ?_⟩
        have four3 := four2.app (i := 2) (by decide) (y := .ref ga) (d := dGrp (.free r)) (Dp.up (nw_ge t15) _ dga)
        refine ⟨_, rfl, .inl ⟨rfl, _, sqL (four3.at_ 3 (by decide))⟩, _, rfl, _, rfl, ?_⟩
        dsimp only [if_false]
        refine ⟨F 3, X 3, _, rfl, rfl, four3.at_ 3 (by decide), by rw [lX 3 (by decide)]; exact sl, ?_⟩
        have four4 := four3.app (i := 3) (by decide) (y := .non) (d := dChg (.free r)) .non
        refine ⟨_, _, ls ++ [.free r], _, _, rfl, four4, ?_, ?_, ?_, ?_, by rw [List.length_append, ll]; rfl, lsg (.free r) ⟨hr, hr0⟩⟩
        · show D 0 ++ [_] = _
          rw [d0, List.map_append]; rfl
        · show D 1 ++ [_] = _
          rw [d1', List.map_append]; rfl
        · show D 2 ++ [_] = _
          rw [d2', List.map_append]; rfl
        · show D 3 ++ [_] = _
          rw [d3', List.map_append]; rfl
    · rintro σ H7 ⟨X, D, ls, y10, y11, rfl, four, d0, d1', d2', d3', ll, lg⟩
      have ll' : ls.length = m := by omega
      have st := four.sb
      refine ⟨_, rfl, F 0, X 0, rfl, .inl ⟨sqL (four.at_ 0 (by decide)), fun w1 h1 => ?_⟩⟩
      have u1 := same_new (o := .tup (X 0)) h1
      refine ⟨_, rfl, F 1, X 1, rfl, .inl ⟨sqL (u1 _ _ (four.at_ 1 (by decide))), fun w2 h2 => ?_⟩⟩
      have u2 := same_new (o := .tup (X 1)) h2
      refine ⟨_, rfl, F 2, X 2, rfl, .inl ⟨sqL (u2 _ _ (u1 _ _ (four.at_ 2 (by decide)))), fun w3 h3 => ?_⟩⟩
      have u3 := same_new (o := .tup (X 2)) h3
      refine ⟨_, rfl, F 3, X 3, rfl, .inl ⟨sqL (u3 _ _ (u2 _ _ (u1 _ _ (four.at_ 3 (by decide))))), fun w4 h4 => ?_⟩⟩
      have u4 := same_new (o := .tup (X 3)) h4
      have k1 := u4 _ _ (u3 _ _ (u2 _ _ (upd_same : upd H7 w1 (.tup (X 0)) w1 = _)))
      have k2 := u4 _ _ (u3 _ _ (upd_same : upd (upd H7 w1 (.tup (X 0))) w2 (.tup (X 1)) w2 = _))
      have k3 := u4 _ _ (upd_same : upd (upd (upd H7 w1 (.tup (X 0))) w2 (.tup (X 1))) w3 (.tup (X 2)) w3 = _)
      have k4 : upd (upd (upd (upd H7 w1 (.tup (X 0))) w2 (.tup (X 1))) w3 (.tup (X 2))) w4 (.tup (X 3)) w4 = some (.tup (X 3)) := upd_same
      have u14 := u1.trans (u2.trans (u3.trans u4))
      revert k1 k2 k3 k4 u14
      generalize upd (upd (upd (upd H7 w1 (.tup (X 0))) w2 (.tup (X 1))) w3 (.tup (X 2))) w4 (.tup (X 3)) = H8
      intro k1 k2 k3 k4 u14
      intro x dx hx hdx nx
      have sx : Same H8 (upd (upd H8 dx (.own x)) x (.ins CH dx [])) := (same_new hdx).trans (same_new (by rw [upd_ne (Ne.symm nx)]; exact hx))
      have sy : Same H8 (upd (upd (upd H8 dx (.own x)) x (.ins CH dx [])) x (.ins CH dx (hflds (.ref w1) (.ref w2) (.ref w3) (.ref w4)))) := same_mut sx hx
      have s08 := (s05.trans (st.trans u14))
      have gd : ∀ t, t < 4 → DpAll K (upd (upd (upd H8 dx (.own x)) x (.ins CH dx [])) x (.ins CH dx (hflds (.ref w1) (.ref w2) (.ref w3) (.ref w4)))) (X t) (D t) := fun t ht =>
        DpAll.up (u14.trans sy) _ (DpAll.up (nw_le st) _ (four.dat t ht))
      refine ⟨x, dx, .ref w1, .ref w2, .ref w3, .ref w4, rfl, upd_same, rfl, fin2 ls x dx _ _ _ _ _ (s08.trans sy) (hL ls ll' lg) ll' upd_same ?_ ?_ ?_ ?_⟩
      · exact .tup (sqT (sy _ _ k1)) (d0 ▸ gd 0 (by decide))
      · exact .tup (sqT (sy _ _ k2)) (d1' ▸ gd 1 (by decide))
      · exact .tup (sqT (sy _ _ k3)) (d2' ▸ gd 2 (by decide))
      · exact .tup (sqT (sy _ _ k4)) (d3' ▸ gd 3 (by decide))
  · obtain ⟨sv, zs, rfl, qz, dz⟩ := Dp.tupI (Dp.up (nw_le (eH_same _)) _ d3)
    refine ⟨p, [.non, .ref sv], rfl, sqT hp, rfl, _, _, rfl, _, _, rfl, rfl, ?_⟩
    refine ⟨_, rfl, _, rfl, ?_⟩
    obtain ⟨IF, hZ⟩ := hN wt hNw
    refine ⟨_, rfl, ?_⟩
    refine ⟨_, rr wt, rfl, .inr (.tup qz dz), IF.len, IF.run, IF.all, fun q H4 s4 nq hq => ?_⟩
    refine ⟨q, _, rfl, .inl ⟨sqL hq, fun W hW => ?_⟩⟩
    intro x dx hx hdx nx
    have sW := same_new (o := .tup (iv (intsOf (rr wt)))) hW
    have s04 := s1.trans (s2.trans (s3.trans s4))
    have sx : Same H (upd (upd (upd H4 W (.tup (iv (intsOf (rr wt))))) dx (.own x)) x (.ins CZ dx [])) := s04.trans (sW.trans ((same_new hdx).trans (same_new (by rw [upd_ne (Ne.symm nx)]; exact hx))))
    have hW2 : upd (upd (upd H4 W (.tup (iv (intsOf (rr wt))))) dx (.own x)) x (.ins CZ dx []) W = some (.tup (iv (intsOf (rr wt)))) := by
      have e1 := ne_of_none (upd_same : upd H4 W (.tup (iv (intsOf (rr wt)))) W = _) hdx
      have e2 := ne_of_none (upd_same : upd H4 W (.tup (iv (intsOf (rr wt)))) W = _) hx
      rw [upd_ne e2, upd_ne e1, upd_same]
    have wx : W ≠ x := ne_of_none (upd_same : upd H4 W (.tup (iv (intsOf (rr wt)))) W = _) hx
    have hx0 : H x = none := s04.free (sW.free hx)
    refine ⟨x, dx, .ref W, rfl, upd_same, rfl, ?_⟩
    refine fin1 _ x dx (.ref W) _ (same_mut sx hx0) hZ upd_same ?_
    exact .tup (sqT (by rw [upd_ne wx]; exact hW2)) (DpAll.ints _)
end
end K51W

set_option maxHeartbeats 4000000
/-! The law's draws. -/
namespace K51W
open PySem PySem.Spec PyProof.Rows L2 K51
section
variable {P : Program} {w : World} {K : PySem.W.Frag} {mg : Str → Option Value} {base : Heap}
abbrev penO (lc : Addr) (a d c f : Int) : HO := .dK [(.inr (Str.ofString "cells"), .ref lc), (.inr (Str.ofString "at"), .int a), (.inr (Str.ofString "digits"), .int d), (.inr (Str.ofString "count"), .int c), (.inr (Str.ofString "fold"), .int f)]
/-- all but the pen stays -/
def SameP (pen : Addr) (H H' : Hp) : Prop := Same (wo H pen) H'
theorem SameP.refl {pen : Addr} {H : Hp} : SameP pen H H := wo_le
theorem SameP.of {pen : Addr} {H H' : Hp} (s : Same H H') : SameP pen H H' := wo_le.trans s
theorem SameP.trans {pen : Addr} {H H' H'' : Hp} (s : SameP pen H H') (s' : SameP pen H' H'') : SameP pen H H'' := fun b o e => by
  have nb : b ≠ pen := fun z => by rw [z, wo_none] at e; cases e
  exact s' b o (by rw [wo_at nb]; exact s b o e)
theorem SameP.put {pen : Addr} {H H' : Hp} {o : HO} (s : SameP pen H H') : SameP pen H (upd H' pen o) := fun b u e => by
  have nb : b ≠ pen := fun z => by rw [z, wo_none] at e; cases e
  rw [upd_ne nb]
  exact s b u e
theorem SameP.low {pen : Addr} {L H H' : Hp} (l : Same L (wo H pen)) (s : SameP pen H H') : Same L (wo H' pen) := fun b o e => by
  have e1 := l b o e
  have nb : b ≠ pen := fun z => by rw [z, wo_none] at e1; cases e1
  rw [wo_at nb]
  exact s b o e1
/-- a pen on the heap that drew at most n times -/
def PenAt (K : PySem.W.Frag) (L H : Hp) (pen : Addr) (n : Nat) : Prop := Same L (wo H pen) ∧ ∃ (lc : Addr) (cs : List Int) (a : Nat) (d : Int) (c f : Nat), H pen = some (penO lc (a : Int) d (c : Int) (f : Int)) ∧ SqL K L lc (iv cs) ∧ 0 ≤ d ∧ c ≤ n ∧ f < 2147483648
def spPen (K : PySem.W.Frag) : Sp := fun vs H Q _ => ∃ (s : Addr) (cs : List Int), vs = [.ref s] ∧ SqL K H s (iv cs) ∧ cs.length ≤ 100 ∧ ∀ pen H', Same H H' → H pen = none → PenAt K (wo H' pen) H' pen 0 → Q (.ref pen) H'
theorem ok_law_pen {f : Addr} {fd : FuncData} (F : Df K "_law_pen" "_law_pen" s_law_pen f fd) (T : Bn mg) : FnOk P w K mg base CX0 41 f fd ["_law_script"] (spPen K) := by
  refine body_ok F sc_law_pen (fun vs H Q E h => by obtain ⟨s, cs, rfl, _⟩ := h; rfl) (fun cdv A outer s H vs Q E hr h => ?_)
  obtain ⟨a, cs, rfl, hS, hn, fin⟩ := h
  refine ⟨_, (pss_cons (ps_set (i := 1) sc_law_pen.nd rfl (Or.inl rfl) pe_int)
      (pss_cons (ps_for PassesOwn.never rfl (piL (K := K) rfl (pv 0)) (pg_name (i := 2) sc_law_pen.nd rfl (Or.inl rfl) (Or.inr rfl))
      (pss_one (ps_set (i := 1) sc_law_pen.nd rfl (Or.inl rfl) (pe_op op_modN (pe_callTy call_int1 (by rfl) T.int (by decide +kernel) (pa_cons (pe_op op_add (pe_op op_mulP (pv 1) pe_int) (pv 2)) pa_nil)) pe_int))))
      (pss_one (ps_ret (pe_disp (pps_cons pe_str (pe_callTy (listO (K := K) rfl) (by rfl) T.list (by decide +kernel) (pa_cons (pv 0) pa_nil)) (pps_cons pe_str pe_int (pps_cons pe_str pe_int (pps_cons pe_str pe_int (pps_cons pe_str (pv 1) pps_nil))))) rfl rfl (by simp) (by decide)))))), ?_⟩
  refine ⟨_, rfl, a, rfl, ⟨_, hS⟩, ?_⟩
  refine for_it walk_list (fun i σ H' => H' = H ∧ ∃ (fo : Nat) (y : Option V), fo < 2147483648 ∧ σ = [some (.ref a), some (.int (fo : Int)), y]) ⟨rfl, 0, none, by decide, rfl⟩ (fun i σ H' _ ⟨e, _⟩ => e ▸ hS) ?_ ?_
  · rintro i x σ H1 H2 hi ⟨rfl, fo, y, hf, rfl⟩ ⟨rfl, ex⟩
    obtain ⟨u, hu, rfl⟩ := iv_get ex
    refine ⟨_, rfl, _, _, rfl, rfl, .inr (.inl (by decide)), _, rfl, _, _, rfl, rfl, .inl ⟨_, rfl, _, _, rfl, rfl, by show (1000000007 : Int) ≠ 0; decide, rfl, (((fo : Int) * 41 + u).fmod 1000000007).toNat, some (.int u), ?_, ?_⟩⟩
    · have h1 := Int.fmod_nonneg_of_pos ((fo : Int) * 41 + u) (show (0 : Int) < 1000000007 by decide)
      have h2 := Int.fmod_lt_of_pos ((fo : Int) * 41 + u) (show (0 : Int) < 1000000007 by decide)
      omega
    · have h1 := Int.fmod_nonneg_of_pos ((fo : Int) * 41 + u) (show (0 : Int) < 1000000007 by decide)
      rw [Int.toNat_of_nonneg h1]
      rfl
  · rintro σ H1 ⟨rfl, fo, y, hf, rfl⟩
    intro pen hpen
    have s1 := same_new (o := .dK []) hpen
    refine ⟨_, rfl, a, _, rfl, .inl (s1.seq hS), fun lc hlc => ?_⟩
    have s2 := same_new (o := .lst (iv cs)) hlc
    refine ⟨_, rfl, s2 _ _ upd_same, [(.inr (Str.ofString "cells"), .ref lc), (.inr (Str.ofString "at"), .int 0), (.inr (Str.ofString "digits"), .int 0), (.inr (Str.ofString "count"), .int 0), (.inr (Str.ofString "fold"), .int (fo : Int))], rfl, by show 5 ≤ 15; decide, ?_⟩
    have nl : lc ≠ pen := (ne_of_none upd_same hlc).symm
    refine fin pen _ (same_mut (s1.trans s2) hpen) hpen ⟨Same.refl _, lc, cs, 0, 0, 0, fo, ?_, sqL (by rw [wo_at nl, upd_ne nl, upd_same]), by decide, by decide, hf⟩
    rw [upd_same]
    rfl
abbrev penL (lc : Addr) (a d c f : Int) : List (Key × V) := [(.inr (Str.ofString "cells"), .ref lc), (.inr (Str.ofString "at"), .int a), (.inr (Str.ofString "digits"), .int d), (.inr (Str.ofString "count"), .int c), (.inr (Str.ofString "fold"), .int f)]
section
variable {lc : Addr} {a d c f x : Int}
theorem pg_cells : valV (penL lc a d c f) (.inr (Str.ofString "cells")) = some (.ref lc) := rfl
theorem pg_at : valV (penL lc a d c f) (.inr (Str.ofString "at")) = some (.int a) := rfl
theorem pg_digits : valV (penL lc a d c f) (.inr (Str.ofString "digits")) = some (.int d) := rfl
theorem pg_count : valV (penL lc a d c f) (.inr (Str.ofString "count")) = some (.int c) := rfl
theorem pg_fold : valV (penL lc a d c f) (.inr (Str.ofString "fold")) = some (.int f) := rfl
theorem pp_at : putK (penL lc a d c f) (.inr (Str.ofString "at")) (.int x) = penL lc x d c f := rfl
theorem pp_digits : putK (penL lc a d c f) (.inr (Str.ofString "digits")) (.int x) = penL lc a x c f := rfl
theorem pp_count : putK (penL lc a d c f) (.inr (Str.ofString "count")) (.int x) = penL lc a d x f := rfl
theorem pp_fold : putK (penL lc a d c f) (.inr (Str.ofString "fold")) (.int x) = penL lc a d c x := rfl
end
theorem dg {H : Hp} {a : Addr} {kvs : List (Key × V)} {k : Key} {v : V} (e : H a = some (.dK kvs)) (h : valV kvs k = some v) : DGet H a (kV k) (some v) := h ▸ DGet.k e
theorem dp {H : Hp} {a : Addr} {kvs l : List (Key × V)} {k : Key} {v : V} (e : H a = some (.dK kvs)) (hl : kvs.length < sizeLine) (h : putK kvs k v = l) : DPut H a (kV k) v (upd H a (.dK l)) := h ▸ DPut.k e hl
def spDraw (K : PySem.W.Frag) : Sp := fun vs H Q _ => ∃ (pen : Addr) (k : Int) (n : Nat) (L : Hp), vs = [.ref pen, .int k] ∧ 0 < k ∧ n ≤ 100000 ∧ PenAt K L H pen n ∧ ∀ r H', SameP pen H H' → PenAt K L H' pen (n + 1) → 0 ≤ r → r < k → Q (.int r) H'
theorem ok_law_draw {f : Addr} {fd : FuncData} (F : Df K "_law_draw" "_law_draw" s_law_draw f fd) (B : Big P base) (T : Bn mg) : FnOk P w K mg base CX0 41 f fd ["_law_pen_here", "_law_many"] (spDraw K) := by
  refine body_ok F sc_law_draw (fun vs H Q E h => by obtain ⟨s, k, n, L, rfl, _⟩ := h; rfl) (fun cdv A outer s H vs Q E hr h => ?_)
  obtain ⟨pen, k, n, L, rfl, hk, hn, ⟨sL, lc, cs, a, d, c, fo, hp, hS0, hd, hc, hf⟩, fin⟩ := h
  have up : ∀ {H'}, SameP pen H H' → SqL K H' lc (iv cs) := fun s => ((SameP.low sL s).trans wo_le).seq hS0
  refine ⟨_, (pss_cons (ps_dput (hu_of hr) (pv 0) pe_str (pe_op op_add (pe_dget (hu_of hr) (pv 0) pe_str (fun _ _ => rfl)) pe_int) rfl)
      (pss_cons (ps_if (PW.pt (pw_and (pt_cmpR op_eq (pe_dget (hu_of hr) (pv 0) pe_str (fun _ _ => rfl)) pe_int (nomark _)) (pw_and1 (pt_cmpR op_lt (pe_dget (hu_of hr) (pv 0) pe_str (fun _ _ => rfl)) (pe_callB (lenS (K := K) rfl) (by rfl) T.len (by decide +kernel) (pa_cons (pe_dget (hu_of hr) (pv 0) pe_str (fun _ _ => rfl)) pa_nil)) (nomark _))))) (pss_cons (ps_set (i := 2) sc_law_draw.nd rfl (Or.inl rfl) (pe_ix (ixL (K := K) rfl) (pe_dget (hu_of hr) (pv 0) pe_str (fun _ _ => rfl)) (pe_dget (hu_of hr) (pv 0) pe_str (fun _ _ => rfl)) (fun _ _ => rfl)))
      (pss_cons (ps_dput (hu_of hr) (pv 0) pe_str (pe_op op_add (pe_dget (hu_of hr) (pv 0) pe_str (fun _ _ => rfl)) pe_int) rfl)
      (pss_one (ps_if (pt_cmpR op_ge (pv 2) (pe_op op_pow pe_int pe_int) (nomark _)) (pss_one (ps_dput (hu_of hr) (pv 0) pe_str (pe_op op_sub (pv 2) (pe_op op_pow pe_int pe_int)) rfl)) (pss_one (ps_dput (hu_of hr) (pv 0) pe_str (pe_op op_modN (pe_callTy call_int1 (by rfl) T.int (by decide +kernel) (pa_cons (pe_op op_add (pe_op op_mulP (pe_dget (hu_of hr) (pv 0) pe_str (fun _ _ => rfl)) pe_int) (pv 2)) pa_nil)) pe_int) rfl)))))) pss_nil)
      (pss_cons (ps_if (pt_cmpR op_gt (pe_dget (hu_of hr) (pv 0) pe_str (fun _ _ => rfl)) pe_int (nomark _)) (pss_cons (ps_set (i := 3) sc_law_draw.nd rfl (Or.inl rfl) (pe_op op_modN (pe_callTy call_int1 (by rfl) T.int (by decide +kernel) (pa_cons (pe_dget (hu_of hr) (pv 0) pe_str (fun _ _ => rfl)) pa_nil)) (pv 1)))
      (pss_cons (ps_dput (hu_of hr) (pv 0) pe_str (pe_op (op_fdivP B ⟨_, _, rfl, rfl, rfl, rfl, rfl⟩ (hr.mono (by decide))) (pe_dget (hu_of hr) (pv 0) pe_str (fun _ _ => rfl)) (pv 1)) rfl)
      (pss_one (ps_ret (pv 3))))) pss_nil)
      (pss_cons (ps_set (i := 4) sc_law_draw.nd rfl (Or.inl rfl) (pe_op op_add (pe_op op_add (pe_dget (hu_of hr) (pv 0) pe_str (fun _ _ => rfl)) (pe_op op_mulP (pe_dget (hu_of hr) (pv 0) pe_str (fun _ _ => rfl)) pe_int)) pe_int))
      (pss_one (ps_ret (pe_op op_modN (pe_op (op_fdivP B ⟨_, _, rfl, rfl, rfl, rfl, rfl⟩ (hr.mono (by decide))) (pe_callTy call_int1 (by rfl) T.int (by decide +kernel) (pa_cons (pe_op op_modN (pe_op op_pow (pv 4) pe_int) pe_int) pa_nil)) pe_int) (pv 1)))))))), ?_⟩
  have z5 : 5 < sizeLine := by decide
  refine ⟨_, rfl, pen, _, rfl, dg hp pg_count, _, _, rfl, rfl, _, rfl, pen, _, rfl, dp hp z5 pp_count, ?_⟩
  have s1 : SameP pen H (upd H pen (.dK (penL lc (a : Int) d ((c : Int) + 1) (fo : Int)))) := SameP.refl.put
  have hp1 : upd H pen (.dK (penL lc (a : Int) d ((c : Int) + 1) (fo : Int))) pen = some (.dK (penL lc (a : Int) d ((c : Int) + 1) (fo : Int))) := upd_same
  revert s1 hp1
  generalize upd H pen (.dK (penL lc (a : Int) d ((c : Int) + 1) (fo : Int))) = H1
  intro s1 hp1
  have hS1 := up s1
  dsimp only
  refine seq_cut (fun σ H' => ∃ (a' f' : Nat) (d' : Int) (y2 : Option V), σ = [some (.ref pen), some (.int k), y2, none, none] ∧ SameP pen H H' ∧ H' pen = some (.dK (penL lc (a' : Int) d' ((c : Int) + 1) (f' : Int))) ∧ 0 ≤ d' ∧ f' < 2147483648) (fun N hN => ?_) ?_
  · refine ⟨_, rfl, pen, _, rfl, dg hp1 pg_digits, rfl, _, rfl, ?_⟩
    by_cases e0 : d = 0
    · rw [decide_eq_true (congrArg V.int e0)]
      refine ⟨_, rfl, pen, _, rfl, dg hp1 pg_at, _, rfl, pen, _, rfl, dg hp1 pg_cells, lc, _, rfl, .inl hS1, _, _, rfl, rfl, _, rfl, ?_⟩
      by_cases e1 : (a : Int) < ((iv cs).length : Int)
      · rw [decide_eq_true e1]
        have hac : a < (iv cs).length := by omega
        obtain ⟨u, hu, eu⟩ := iv_get (List.getElem?_eq_getElem hac)
        refine ⟨_, rfl, pen, _, rfl, dg hp1 pg_cells, _, rfl, pen, _, rfl, dg hp1 pg_at, lc, _, _, _, rfl, rfl, hS1, at_of rfl (by rw [List.getElem?_eq_getElem hac, eu]), ?_⟩
        refine ⟨_, rfl, pen, _, rfl, dg hp1 pg_at, _, _, rfl, rfl, _, rfl, pen, _, rfl, dp hp1 z5 pp_at, ?_⟩
        have s2 := SameP.put (o := .dK (penL lc ((a : Int) + 1) d ((c : Int) + 1) (fo : Int))) s1
        have hp2 : upd H1 pen (.dK (penL lc ((a : Int) + 1) d ((c : Int) + 1) (fo : Int))) pen = some (.dK (penL lc ((a : Int) + 1) d ((c : Int) + 1) (fo : Int))) := upd_same
        revert s2 hp2
        generalize upd H1 pen (.dK (penL lc ((a : Int) + 1) d ((c : Int) + 1) (fo : Int))) = H2
        intro s2 hp2
        refine ⟨_, rfl, _, _, rfl, rfl, ⟨by decide, by decide, by decide⟩, _, _, rfl, rfl, _, rfl, ?_⟩
        generalize hE : (10 : Int) ^ Int.toNat 18 = E18
        by_cases e2 : E18 ≤ u
        · rw [decide_eq_true e2]
          refine ⟨_, rfl, _, _, rfl, rfl, ⟨by decide, by decide, by decide⟩, _, _, rfl, rfl, _, rfl, pen, _, rfl, dp hp2 z5 pp_digits, ?_⟩
          rw [hE]
          exact hN _ _ ⟨a + 1, fo, u - E18, _, rfl, s2.put, upd_same, by omega, hf⟩
        · rw [decide_eq_false e2]
          refine ⟨_, rfl, pen, _, rfl, dg hp2 pg_fold, _, _, rfl, rfl, .inr (.inl (by decide)), _, rfl, _, _, rfl, rfl, .inl ⟨_, rfl, _, _, rfl, rfl, by show (2147483587 : Int) ≠ 0; decide, _, rfl, pen, _, rfl, dp hp2 z5 pp_fold, ?_⟩⟩
          have h1 := Int.fmod_nonneg_of_pos ((fo : Int) * 69069 + u) (show (0 : Int) < 2147483587 by decide)
          have h2 := Int.fmod_lt_of_pos ((fo : Int) * 69069 + u) (show (0 : Int) < 2147483587 by decide)
          refine hN _ _ ⟨a + 1, (((fo : Int) * 69069 + u).fmod 2147483587).toNat, d, _, rfl, s2.put, ?_, hd, by omega⟩
          rw [upd_same, Int.toNat_of_nonneg h1]
          rfl
      · rw [decide_eq_false e1]
        exact hN _ _ ⟨a, fo, d, _, rfl, s1, hp1, hd, hf⟩
    · rw [decide_eq_false (fun h => e0 (V.int.inj h))]
      exact hN _ _ ⟨a, fo, d, _, rfl, s1, hp1, hd, hf⟩
  · rintro σ2 H2 ⟨a', f', d', y2, rfl, s2, hp2, hd2, hf2⟩
    refine ⟨_, rfl, pen, _, rfl, dg hp2 pg_digits, _, _, rfl, rfl, _, rfl, ?_⟩
    have k0 : k ≠ 0 := by omega
    by_cases e0 : (0 : Int) < d'
    · rw [decide_eq_true e0]
      refine ⟨_, rfl, pen, _, rfl, dg hp2 pg_digits, .inl ⟨_, rfl, _, rfl, _, _, rfl, rfl, k0, ?_⟩⟩
      refine ⟨_, rfl, pen, _, rfl, dg hp2 pg_digits, _, rfl, _, _, rfl, rfl, k0, _, rfl, pen, _, rfl, dp hp2 z5 pp_digits, ?_⟩
      have h3 : 0 ≤ d'.fdiv k := by
        rw [Int.fdiv_eq_ediv_of_nonneg _ (by omega)]
        exact Int.ediv_nonneg hd2 (by omega)
      exact ⟨_, rfl, fin _ _ s2.put ⟨SameP.low sL s2.put, lc, cs, a', d'.fdiv k, c + 1, f', upd_same, hS0, h3, by omega, hf2⟩ (Int.fmod_nonneg_of_pos _ hk) (Int.fmod_lt_of_pos _ hk)⟩
    · rw [decide_eq_false e0]
      dsimp only [tNext]
      refine ⟨_, rfl, pen, _, rfl, dg hp2 pg_fold, _, rfl, pen, _, rfl, dg hp2 pg_count, _, _, rfl, rfl, .inr (.inl (by decide)), _, _, rfl, rfl, _, _, rfl, rfl, ?_⟩
      refine ⟨_, rfl, _, _, rfl, rfl, ⟨by decide, by decide, ?_⟩, _, _, rfl, rfl, by show (2305843009213693951 : Int) ≠ 0; decide, .inl ⟨_, rfl, _, _, rfl, rfl, by show (128 : Int) ≠ 0; decide, _, rfl, _, _, rfl, rfl, k0, ?_⟩⟩
      · have : (f' : Int) + ((c : Int) + 1) * 7907 + 37 < 2 ^ 40 := by omega
        omega
      · exact fin _ _ s2 ⟨SameP.low sL s2, lc, cs, a', d', c + 1, f', hp2, hS0, hd2, by omega, hf2⟩ (Int.fmod_nonneg_of_pos _ hk) (Int.fmod_lt_of_pos _ hk)
def spPick (K : PySem.W.Frag) : Sp := fun vs H Q _ => ∃ (pen s : Addr) (xs : List V) (n : Nat) (L : Hp), vs = [.ref pen, .ref s] ∧ SqL K (wo H pen) s xs ∧ 0 < xs.length ∧ n ≤ 100000 ∧ PenAt K L H pen n ∧ ∀ (i : Nat) v H', xs[i]? = some v → SameP pen H H' → PenAt K L H' pen (n + 1) → Q v H'
theorem ok_law_pick {f : Addr} {fd : FuncData} (F : Df K "_law_pick" "_law_pick" s_law_pick f fd) (T : Bn mg) (h_law_draw : Fn P w K mg base 41 "_law_draw" ["_law_pen_here", "_law_many"] (spDraw K)) :
    FnOk P w K mg base CX0 42 f fd ["_law_pen_here", "_law_some"] (spPick K) := by
  refine body_ok F sc_law_pick (fun vs H Q E h => by obtain ⟨p, s, xs, n, L, rfl, _⟩ := h; rfl) (fun cdv A outer s H vs Q E hr h => ?_)
  obtain ⟨pen, a, xs, n, L, rfl, hS, h0, hn, hP, fin⟩ := h
  refine ⟨_, (pss_one (ps_ret (pe_ix (ixL (K := K) rfl) (pv 1) (pe_fn h_law_draw (hr.mono (by decide)) (by rfl) (pa_cons (pv 0) (pa_cons (pe_callB (lenS (K := K) rfl) (by rfl) T.len (by decide +kernel) (pa_cons (pv 1) pa_nil)) pa_nil))) (fun _ _ => rfl)))), ?_⟩
  refine ⟨_, rfl, _, rfl, _, rfl, a, xs, rfl, .inl (wo_le.seq hS), ?_⟩
  refine ⟨pen, _, n, L, rfl, by omega, hn, hP, fun r H1 s1 hP1 h1 h2 => ?_⟩
  have hr : r.toNat < xs.length := by omega
  exact ⟨a, xs, r, _, rfl, rfl, Same.seq s1 hS, at_of (Int.toNat_of_nonneg h1).symm (List.getElem?_eq_getElem hr), fin r.toNat _ H1 (List.getElem?_eq_getElem hr) s1 hP1⟩
end
end K51W

set_option maxHeartbeats 4000000
/-! The law's drawn matrices. -/
namespace K51W
open PySem PySem.Spec PyProof.Rows L2 K51
section
variable {J : It} {n : Nat} {Gd : Hp → Prop} {Y : Nat → Hp → V → Hp → Prop} {g : TG} {te : TE} {vs : List Nat} {σ : Sto} {H1 : Hp} {D : Addr} {Qd : Hp → Prop}
theorem wo_id {H : Hp} {D : Addr} (h : H D = none) : wo H D = H := funext fun a => by
  by_cases e : a = D
  · rw [e, wo_none, h]
  · exact wo_at e
/-- one item a turn; I tells of the turns done, of their items and of the heap without the new list -/
theorem lc_st (w : Walk J n Gd Y) (hD : H1 D = none) (I : Nat → List V → Hp → Prop) (h0 : I 0 [] H1) (hn : n ≤ 100000) (hG : ∀ i ys H, I i ys (wo H D) → H D = some (.lst ys) → Gd H)
    (hs : ∀ i ys x H H', i < n → ys.length = i → I i ys (wo H D) → H D = some (.lst ys) → Y i H x H' → ∀ (N : V → Hp → Prop), (∀ y H4, H4 D = some (.lst ys) → I (i + 1) (ys ++ [y]) (wo H4 D) → N y H4) →
      g x (wipe σ vs) H' fun σ2 H2 => wipe σ2 vs = wipe σ vs ∧ te σ2 H2 N)
    (hd : ∀ (H : Hp) (ys : List V), I n ys (wo H D) → H D = some (.lst ys) → ys.length = n → Qd H) :
    ∃ W : Nat → Nat → Hp → Prop, (∃ m, W 0 m (upd H1 D (.lst []))) ∧ ∀ i m H, W i m H →
      (J.stop i H ∧ Qd H) ∨ (J.go i H ∧ ∃ Nx : Hp → Prop, (∀ H', Nx H' → ∃ m', m' < m ∧ W (i + 1) m' H') ∧ ∀ x H', J.yld i H x H' → g x (wipe σ vs) H' fun σ2 H2 => wipe σ2 vs = wipe σ vs ∧ tYes σ2 H2 fun b H3 =>
        if b = true then te σ2 H3 fun y H4 => ∃ acc, H4 D = some (.lst acc) ∧ acc.length < sizeLine ∧ Nx (upd H4 D (.lst (acc ++ [y]))) else Nx H3) := by
  refine lc_it w (fun i H => ∃ ys, ys.length = i ∧ I i ys (wo H D) ∧ H D = some (.lst ys)) ⟨[], rfl, by rw [wo_upd, wo_id hD]; exact h0, upd_same⟩
    (fun i H _ ⟨ys, _, s1, s2⟩ => hG i ys H s1 s2) (fun i x H H' hi ⟨ys, h1, h2, h3⟩ hy => ?_) (fun H ⟨ys, h1, h2, h3⟩ => hd H ys h2 h3 h1)
  have key := hs i ys x H H' hi h1 h2 h3 hy (fun y H4 => ∃ acc, H4 D = some (.lst acc) ∧ acc.length < sizeLine ∧ ∃ zs, zs.length = i + 1 ∧ I (i + 1) zs (wo (upd H4 D (.lst (acc ++ [y]))) D) ∧ (upd H4 D (.lst (acc ++ [y]))) D = some (.lst zs)) fun y H4 e r => ?_
  · unfold tYes
    simp only [if_true]
    exact key
  exact ⟨ys, e, Nat.lt_of_lt_of_le (by omega : ys.length < 100000) (by decide), ys ++ [y], by simp [h1], by rw [wo_upd]; exact r, upd_same⟩
end
section
variable {K : PySem.W.Frag} {pen : Addr}
theorem SameP.free {H H' : Hp} (s : SameP pen H H') (hp : H pen ≠ none) {a : Addr} (h : H' a = none) (hp' : H' pen ≠ none) : H a = none := by
  by_cases e : a = pen
  · rw [e] at h; exact absurd h hp'
  · have := Same.free s h
    rwa [wo_at e] at this
theorem nw_P {H0 H H' : Hp} (s : SameP pen H H') (h : H0 pen ≠ none) : Same (nw eH H0 H) (nw eH H0 H') := fun b o e => by
  cases q : H0 b with
  | none =>
    have nb : b ≠ pen := fun z => h (z ▸ q)
    rw [nw_new q] at e ⊢
    exact s b o (by rw [wo_at nb]; exact e)
  | some u => rw [nw_old q] at e; cases e
theorem PenAt.live {L H : Hp} {n : Nat} (h : PenAt K L H pen n) : H pen ≠ none := by
  obtain ⟨_, _, _, _, _, _, _, e, _⟩ := h
  rw [e]; exact fun z => nomatch z
theorem PenAt.low {L H : Hp} {n : Nat} (h : PenAt K L H pen n) : L pen = none := Same.free h.1 wo_none
theorem PenAt.mono {L H : Hp} {n n' : Nat} (h : PenAt K L H pen n) (hn : n ≤ n') : PenAt K L H pen n' := by
  obtain ⟨h0, lc, cs, a, d, c, f, h1, h2, h4, h5, h6⟩ := h
  exact ⟨h0, lc, cs, a, d, c, f, h1, h2, h4, by omega, h6⟩
theorem PenAt.same {L H H' : Hp} {n : Nat} (h : PenAt K L H pen n) (s : Same H H') : PenAt K L H' pen n := by
  obtain ⟨h0, lc, cs, a, d, c, f, h1, h2⟩ := h
  exact ⟨h0.trans (wo_same s), lc, cs, a, d, c, f, s _ _ h1, h2⟩
/-- another one than the pen changes, that does not stand in L -/
theorem PenAt.upd {L H : Hp} {n : Nat} {R : Addr} {o : HO} (h : PenAt K L H pen n) (hR : L R = none) (nR : R ≠ pen) : PenAt K L (upd H R o) pen n := by
  obtain ⟨h0, lc, cs, a, d, c, f, h1, h2⟩ := h
  refine ⟨fun b u e => ?_, lc, cs, a, d, c, f, by rw [upd_ne nR.symm]; exact h1, h2⟩
  have e1 := h0 b u e
  have nb : b ≠ pen := fun z => by rw [z, wo_none] at e1; cases e1
  have nb2 : b ≠ R := fun z => by rw [z, hR] at e; cases e
  rw [wo_at nb] at e1 ⊢
  rw [upd_ne nb2]
  exact e1
theorem PenAt.wo {L H : Hp} {n : Nat} {R : Addr} (h : PenAt K L H pen n) (hR : L R = none) (nR : R ≠ pen) : PenAt K L (wo H R) pen n := by
  obtain ⟨h0, lc, cs, a, d, c, f, h1, h2⟩ := h
  refine ⟨fun b u e => ?_, lc, cs, a, d, c, f, by rw [wo_at nR.symm]; exact h1, h2⟩
  have e1 := h0 b u e
  have nb : b ≠ pen := fun z => by rw [z, wo_none] at e1; cases e1
  have nb2 : b ≠ R := fun z => by rw [z, hR] at e; cases e
  rw [wo_at nb] at e1 ⊢
  rw [wo_at nb2]
  exact e1
end
section
variable {K : PySem.W.Frag} {pen : Addr}
theorem SameP.wo {H H' : Hp} {D : Addr} (s : SameP pen H H') : SameP pen (wo H D) (wo H' D) := fun b o e => by
  have n1 : b ≠ pen := fun z => by rw [z, wo_none] at e; cases e
  rw [wo_at n1] at e
  have n2 : b ≠ D := fun z => by rw [z, wo_none] at e; cases e
  rw [wo_at n2] at e ⊢
  exact s b o (by rw [wo_at n1]; exact e)
/-- the rows drawn so far: at R since H -/
structure MSt (K : PySem.W.Frag) (L H : Hp) (R pen : Addr) (H' : Hp) (M : Mat) (nd : Nat) : Prop where
  sp : SameP pen H H'
  pn : PenAt K L H' pen nd
  at_ : ∃ rs, H' R = some (.lst rs) ∧ DpAll K (nw eH (upd H R (.lst [])) H') rs (M.map dI)
variable {L H H' H'' : Hp} {R : Addr} {M : Mat} {nd : Nat}
theorem MSt.same (h : MSt K L H R pen H' M nd) (s : Same H' H'') : MSt K L H R pen H'' M nd := by
  obtain ⟨h1, h2, rs, h3, h4⟩ := h
  exact ⟨h1.trans (SameP.of s), h2.same s, rs, s _ _ h3, DpAll.up (nw_mono s) _ h4⟩
theorem MSt.mono {nd' : Nat} (h : MSt K L H R pen H' M nd) (l : nd ≤ nd') : MSt K L H R pen H' M nd' := ⟨h.sp, h.pn.mono l, h.at_⟩
theorem MSt.low {D : Addr} (h : MSt K L H R pen H' M nd) (hD : H' D = none) : L D = none ∧ D ≠ pen ∧ D ≠ R ∧ H D = none := by
  have nd : D ≠ pen := fun z => h.pn.live (z ▸ hD)
  refine ⟨Same.free h.pn.1 (by rw [wo_at nd]; exact hD), nd, fun z => ?_, ?_⟩
  · obtain ⟨rs, h3, _⟩ := h.at_
    rw [z, h3] at hD
    cases hD
  · have := Same.free h.sp hD
    rwa [wo_at nd] at this
theorem MSt.draw (h : MSt K L H R pen H' M nd) (nR : R ≠ pen) (hp : H pen ≠ none) (s : SameP pen H' H'') (p : PenAt K L H'' pen (nd + 1)) : MSt K L H R pen H'' M (nd + 1) := by
  obtain ⟨h1, h2, rs, h3, h4⟩ := h
  exact ⟨h1.trans s, p, rs, s _ _ (by rw [wo_at nR]; exact h3), DpAll.up (nw_P s (by rw [upd_ne nR.symm]; exact hp)) _ h4⟩
end
section
variable {P : Program} {w : World} {K : PySem.W.Frag} {mg : Str → Option Value} {base : Heap}
def spMat (K : PySem.W.Frag) : Sp := fun vs H Q _ => ∃ (pen : Addr) (m w most n : Nat) (L : Hp), vs = [.ref pen, .int (m : Int), .int (w : Int), .int (most : Int)] ∧ m ≤ 6 ∧ 0 < w ∧ w ≤ 4 ∧ most ≤ 20 ∧ n ≤ 50000 ∧ PenAt K L H pen n ∧
  ∀ a M H', SameP pen H H' → PenAt K L H' pen (n + 200) → Rect m w M → (∀ r ∈ M, ∀ x ∈ r, x.natAbs ≤ 4860) → Dp K (nw eH H H') (.ref a) (dM M) → Q (.ref a) H'
theorem ok_law_matrix {f : Addr} {fd : FuncData} (F : Df K "_law_matrix" "_law_matrix" s_law_matrix f fd) (T : Bn mg) (h_law_draw : Fn P w K mg base 41 "_law_draw" ["_law_pen_here", "_law_many"] (spDraw K)) (h_law_pick : Fn P w K mg base 42 "_law_pick" ["_law_pen_here", "_law_some"] (spPick K)) :
    FnOk P w K mg base CX0 43 f fd ["_law_pen_here", "_law_many", "_law_wide", "_law_most"] (spMat K) := by
  refine body_ok F sc_law_matrix (fun vs H Q E h => by obtain ⟨p, m, w, most, n, L, rfl, _⟩ := h; rfl) (fun cdv A outer s H vs Q E hr h => ?_)
  obtain ⟨pen, m, wd, mo, n, L, rfl, hm, hw0, hw, hmo, hn, hP, fin⟩ := h
  refine ⟨_, (pss_cons (ps_set (i := 4) sc_law_matrix.nd rfl (Or.inl rfl) (pe_lst pa_nil))
      (pss_cons (ps_for PassesOwn.never rfl (pi_range1 (by rfl) T.range (pa_cons (pv 1) pa_nil)) (pg_name (i := 5) sc_law_matrix.nd rfl (Or.inl rfl) (Or.inr rfl))
      (pss_cons (ps_setLc (i := 6) (own := [("_law_j", 7)]) (by rfl) sc_law_matrix.nd rfl rfl (sw_true rfl rfl rfl (by decide +kernel)) (pi_range1 (by rfl) T.range (pa_cons (pv 2) pa_nil)) (blkOk_by (N := ["_law_pen_here", "_law_many", "_law_wide", "_law_most", "_law_rows", "_law_k", "_law_row", "_law_j", "_law_one", "_law_by", "_law_other", "_law_a", "_law_b"]) (sc := defScope s_law_matrix) (own := [("_law_j", 7)]) (by decide +kernel)) (fun _ _ _ _ _ => (pg_name (i := 7) sc_law_matrix.nd rfl (Or.inl rfl) (Or.inr rfl))) (fun _ _ _ _ _ => pts_nil) (fun _ _ _ _ _ => (pe_op op_sub (pe_fn h_law_draw (hr.mono (by decide)) (by rfl) (pa_cons (pv 0) (pa_cons (pe_op op_add (pe_op op_mulP pe_int (pv 3)) pe_int) pa_nil))) (pv 3))))
      (pss_cons (ps_if (pt_cmpR op_eq (pe_fn h_law_draw (hr.mono (by decide)) (by rfl) (pa_cons (pv 0) (pa_cons pe_int pa_nil))) pe_int (nomark _)) (pss_one (ps_setLc (i := 6) (own := [("_law_one", 8)]) (by rfl) sc_law_matrix.nd rfl rfl (sw_true rfl rfl rfl (by decide +kernel)) (piL (K := K) rfl (pv 6)) (blkOk_by (N := ["_law_pen_here", "_law_many", "_law_wide", "_law_most", "_law_rows", "_law_k", "_law_row", "_law_j", "_law_one", "_law_by", "_law_other", "_law_a", "_law_b"]) (sc := defScope s_law_matrix) (own := [("_law_one", 8)]) (by decide +kernel)) (fun _ _ _ _ _ => (pg_name (i := 8) sc_law_matrix.nd rfl (Or.inl rfl) (Or.inr rfl))) (fun _ _ _ _ _ => pts_nil) (fun _ _ _ _ _ => (pe_ifExp (pt_cmpR op_eq (pe_fn h_law_draw (hr.mono (by decide)) (by rfl) (pa_cons (pv 0) (pa_cons pe_int pa_nil))) pe_int (nomark _)) (pv 8) pe_int)))) pss_nil)
      (pss_cons (ps_if (PW.pt (pw_and (pt_cmpR op_gt (pv 5) pe_int (nomark _)) (pw_and1 (pt_cmpR op_eq (pe_fn h_law_draw (hr.mono (by decide)) (by rfl) (pa_cons (pv 0) (pa_cons pe_int pa_nil))) pe_int (nomark _))))) (pss_cons (ps_asg (pe_tup (pa_cons (pe_op op_sub (pe_fn h_law_draw (hr.mono (by decide)) (by rfl) (pa_cons (pv 0) (pa_cons pe_int pa_nil))) pe_int) (pa_cons (pe_fn h_law_pick (hr.mono (by decide)) (by rfl) (pa_cons (pv 0) (pa_cons (pv 4) pa_nil))) (pa_cons (pe_fn h_law_pick (hr.mono (by decide)) (by rfl) (pa_cons (pv 0) (pa_cons (pv 4) pa_nil))) pa_nil)))) (tupG (K := K) (n := 3) rfl rfl (pgs_cons (pg_name (i := 9) sc_law_matrix.nd rfl (Or.inr rfl) (Or.inl rfl)) (pgs_cons (pg_name (i := 8) sc_law_matrix.nd rfl (Or.inl rfl) (Or.inr rfl)) (pgs_cons (pg_name (i := 10) sc_law_matrix.nd rfl (Or.inl rfl) (Or.inr rfl)) pgs_nil))) rfl rfl))
      (pss_one (ps_setLc (i := 6) (own := [("_law_a", 11), ("_law_b", 12)]) (by rfl) sc_law_matrix.nd rfl rfl (sw_true rfl rfl rfl (by decide +kernel)) (piZ (K := K) rfl (by rfl) T.zip (pa_cons (pv 8) (pa_cons (pv 10) pa_nil)) rfl rfl) (blkOk_by (N := ["_law_pen_here", "_law_many", "_law_wide", "_law_most", "_law_rows", "_law_k", "_law_row", "_law_j", "_law_one", "_law_by", "_law_other", "_law_a", "_law_b"]) (sc := defScope s_law_matrix) (own := [("_law_a", 11), ("_law_b", 12)]) (by decide +kernel)) (fun _ _ _ _ _ => (tupG (K := K) (n := 2) rfl rfl (pgs_cons (pg_name (i := 11) sc_law_matrix.nd rfl (Or.inl rfl) (Or.inr rfl)) (pgs_cons (pg_name (i := 12) sc_law_matrix.nd rfl (Or.inl rfl) (Or.inr rfl)) pgs_nil)) rfl rfl)) (fun _ _ _ _ _ => pts_nil) (fun _ _ _ _ _ => (pe_op op_add (pe_op op_mulP (pv 9) (pv 11)) (pv 12)))))) pss_nil)
      (pss_one (ps_expr (pe_bm PySem.F.plainAttrs_list PySem.F.slot_list_append PySem.F.type_list_append mt_append (pv 4) (pa_cons (pv 6) pa_nil))))))))
      (pss_one (ps_ret (pv 4))))), ?_⟩
  refine ⟨by show 0 ≤ sizeLine; decide, fun R hR => ?_⟩
  have hpl := hP.live
  have nR : R ≠ pen := fun z => hpl (z ▸ hR)
  have lR : L R = none := by
    exact Same.free hP.1 (by rw [wo_at nR]; exact hR)
  have m0 : MSt K L H R pen (upd H R (.lst [])) [] n := ⟨SameP.of (same_new hR), hP.same (same_new hR), [], upd_same, .nil⟩
  have h1p : upd H R (.lst []) pen ≠ none := by rw [upd_ne nR.symm]; exact hpl
  have h1R : upd H R (.lst []) R ≠ none := by rw [upd_same]; exact fun z => nomatch z
  refine ⟨_, rfl, m, rfl, by omega, by omega, ?_⟩
  refine for_it walk_range (fun k σ H' => ∃ M y5 y6 y8 y9 y10, σ = [some (.ref pen), some (.int (m : Int)), some (.int (wd : Int)), some (.int (mo : Int)), some (.ref R), y5, y6, none, y8, y9, y10, none, none] ∧
      MSt K L H R pen H' M (n + 20 * k) ∧ Rect k wd M ∧ ∀ r ∈ M, ∀ x ∈ r, x.natAbs * 3 ≤ 20 * 3 ^ k) ⟨[], none, none, none, none, none, rfl, m0, ⟨rfl, fun r h => by cases h⟩, fun r h => by cases h⟩ (fun _ _ _ _ _ => trivial) ?_ ?_
  · rintro k xv σ H2 H3 hk ⟨M, y5, y6, y8, y9, y10, rfl, ms, RM, bM⟩ ⟨rfl, rfl⟩
    -- the row
    refine ⟨_, rfl, wd, rfl, by omega, by omega, fun D hD => ?_⟩
    obtain ⟨lD, nDp, nDR, fD⟩ := ms.low hD
    have bmo : (2 : Int) * (mo : Int) + 1 = ((2 * mo + 1 : Nat) : Int) := by omega
    refine lc_st walk_range hD (fun i ys Hx => MSt K L H R pen Hx M (n + 20 * k + i) ∧ ∃ r : List Int, ys = iv r ∧ ∀ x ∈ r, x.natAbs ≤ 20) ⟨ms, [], rfl, fun x h => by cases h⟩ (by omega) (fun _ _ _ _ _ => trivial) ?_ ?_
    · rintro i ys x H4 H5 hi ly ⟨mi, r, rfl, br⟩ hD4 ⟨rfl, rfl⟩ N go
      refine ⟨rfl, _, rfl, _, rfl, _, _, rfl, rfl, .inl (by decide), _, _, rfl, rfl, ?_⟩
      refine ⟨pen, _, _, L, rfl, by omega, by omega, mi.pn.same wo_le, fun u H6 s6 p6 u1 u2 => ?_⟩
      have mj := mi.draw nR hpl s6.wo (p6.wo lD nDp)
      refine ⟨_, rfl, _, _, rfl, rfl, go _ _ (s6 _ _ (by rw [wo_at nDp]; exact hD4)) ⟨mj, r ++ [u - (mo : Int)], (List.map_append (f := V.int) (l₁ := r) (l₂ := [u - (mo : Int)])).symm, fun x hx => ?_⟩⟩
      rcases List.mem_append.mp hx with hx | hx
      · exact br x hx
      · rw [List.mem_singleton.mp hx]; omega
    rintro H4 ys ⟨m4, r, rfl, br⟩ hD4 ly
    have lr : r.length = wd := by rw [List.length_map] at ly; omega
    have m4' := m4.same wo_le
    have d4 : Dp K (nw eH (upd H R (.lst [])) H4) (.ref D) (dI r) := mk_ints (by rw [upd_ne nDR]; exact fD) hD4
    have p3 : 3 ^ (k + 1) = 3 * 3 ^ k := by rw [Nat.pow_succ, Nat.mul_comm]
    have p0 : 0 < 3 ^ k := Nat.pow_pos (by decide)
    clear ms hD m4 fD lD nDp nDR
    dsimp only [gName]
    -- zeros
    refine seq_cut (fun σ H' => ∃ q r' y8, σ = [some (.ref pen), some (.int (m : Int)), some (.int (wd : Int)), some (.int (mo : Int)), some (.ref R), some (.int (0 + (k : Int))), some (.ref q), none, y8, y9, y10, none, none] ∧ MSt K L H R pen H' M (n + 20 * k + 9) ∧
      Dp K (nw eH (upd H R (.lst [])) H') (.ref q) (dI r') ∧ r'.length = wd ∧ ∀ x ∈ r', x.natAbs ≤ 20) (fun Nx hNx => ?_) ?_
    · refine ⟨_, rfl, ⟨pen, 3, _, L, rfl, by decide, by omega, m4'.pn, fun u H5 s5 p5 u1 u2 => ?_⟩⟩
      have m5 := m4'.draw nR hpl s5 p5
      have d5 := Dp.up (nw_P s5 h1p) _ d4
      refine ⟨rfl, _, rfl, ?_⟩
      by_cases e0 : u = 0
      · rw [decide_eq_true (congrArg V.int e0)]
        obtain ⟨_, e, q5⟩ := get_ints (Dp.up (nw_le (eH_same _)) _ d5)
        cases e
        refine ⟨_, rfl, D, rfl, ⟨_, q5⟩, fun D2 hD2 => ?_⟩
        obtain ⟨lD, nDp, nDR, fD⟩ := m5.low hD2
        have d5w := wo_id hD2
        refine lc_st (n := (iv r).length) walk_list hD2 (fun i ys Hx => MSt K L H R pen Hx M (n + 20 * k + wd + 1 + i) ∧ Dp K (nw eH (upd H R (.lst [])) Hx) (.ref D) (dI r) ∧ ∃ r' : List Int, ys = iv r' ∧ ∀ x ∈ r', x.natAbs ≤ 20) ⟨m5, d5, [], rfl, fun x h => by cases h⟩ (by rw [List.length_map]; omega) (fun i ys Hx ⟨_, d, _⟩ _ => ?_) ?_ ?_
        · obtain ⟨_, e, q⟩ := get_ints (Dp.up (nw_le (eH_same _)) _ d)
          cases e
          exact wo_le.seq q
        · rintro i ys x H6 H7 hi ly ⟨mi, di, r', rfl, br'⟩ hD6 ⟨rfl, ex⟩ N go
          obtain ⟨v, hv, rfl⟩ := iv_get ex
          have hvr := br v (List.mem_of_getElem? hv)
          rw [List.length_map, lr] at hi
          refine ⟨rfl, _, rfl, ⟨pen, 2, _, L, rfl, by decide, by omega, mi.pn.same wo_le, fun u H8 s8 p8 u1 u2 => ?_⟩⟩
          have mj := mi.draw nR hpl s8.wo (p8.wo lD nDp)
          have dj := Dp.up (nw_P (SameP.wo (D := D2) s8) h1p) _ di
          refine ⟨rfl, _, rfl, ?_⟩
          by_cases e2 : u = 0
          · rw [decide_eq_true (congrArg V.int e2)]
            refine ⟨_, rfl, go _ _ (s8 _ _ (by rw [wo_at nDp]; exact hD6)) ⟨mj, dj, r' ++ [v], (List.map_append (f := V.int) (l₁ := r') (l₂ := [v])).symm, fun x hx => ?_⟩⟩
            rcases List.mem_append.mp hx with hx | hx
            · exact br' x hx
            · rw [List.mem_singleton.mp hx]; exact hvr
          · rw [decide_eq_false (fun h => e2 (V.int.inj h))]
            refine go _ _ (s8 _ _ (by rw [wo_at nDp]; exact hD6)) ⟨mj, dj, r' ++ [0], (List.map_append (f := V.int) (l₁ := r') (l₂ := [0])).symm, fun x hx => ?_⟩
            rcases List.mem_append.mp hx with hx | hx
            · exact br' x hx
            · rw [List.mem_singleton.mp hx]; decide
        · rintro H6 ys ⟨m6, _, r', rfl, br'⟩ hD6 ly
          rw [List.length_map, List.length_map, lr] at ly
          have e9 : n + 20 * k + wd + 1 + (iv r).length ≤ n + 20 * k + 9 := by rw [List.length_map, lr]; omega
          exact hNx _ _ ⟨D2, r', _, rfl, (m6.same wo_le).mono e9, mk_ints (by rw [upd_ne nDR]; exact fD) hD6, ly, br'⟩
      · rw [decide_eq_false (fun h => e0 (V.int.inj h))]
        exact hNx _ _ ⟨D, r, _, rfl, m5.mono (by omega), d5, lr, br⟩
    rintro σ2 H5 ⟨q, r2, y8, rfl, m5, d5, lr2, br2⟩
    clear m4' d4 hD4 br
    -- sums
    refine seq_cut (fun σ H' => ∃ q r' y8 y9 y10, σ = [some (.ref pen), some (.int (m : Int)), some (.int (wd : Int)), some (.int (mo : Int)), some (.ref R), some (.int (0 + (k : Int))), some (.ref q), none, y8, y9, y10, none, none] ∧ MSt K L H R pen H' M (n + 20 * k + 13) ∧
      Dp K (nw eH (upd H R (.lst [])) H') (.ref q) (dI r') ∧ r'.length = wd ∧ ∀ x ∈ r', x.natAbs * 3 ≤ 20 * 3 ^ (k + 1)) (fun Nx hNx => ?_) ?_
    · have skip : ∀ {r' : List Int}, (∀ x ∈ r', x.natAbs ≤ 20) → ∀ x ∈ r', x.natAbs * 3 ≤ 20 * 3 ^ (k + 1) := fun h x hx => by
        have := h x hx
        omega
      refine ⟨_, rfl, _, _, rfl, rfl, _, rfl, ?_⟩
      by_cases ek : (0 : Int) < 0 + (k : Int)
      · rw [decide_eq_true ek]
        refine ⟨_, rfl, ⟨pen, 4, _, L, rfl, by decide, by omega, m5.pn, fun u H6 s6 p6 u1 u2 => ?_⟩⟩
        have m6 := m5.draw nR hpl s6 p6
        have d6 := Dp.up (nw_P s6 h1p) _ d5
        refine ⟨rfl, _, rfl, ?_⟩
        by_cases e0 : u = 0
        · rw [decide_eq_true (congrArg V.int e0)]
          -- by, one, other
          have lM : M.length = k := RM.1
          have pick : ∀ {H7 nd}, MSt K L H R pen H7 M nd → nd ≤ 100000 → ∀ (Q2 : VK), (∀ a r1 H8, r1 ∈ M → SameP pen H7 H8 → MSt K L H R pen H8 M (nd + 1) → Dp K (nw eH (upd H R (.lst [])) H8) (.ref a) (dI r1) → Q2 (.ref a) H8) → spPick K [.ref pen, .ref R] H7 Q2 E0 := fun {H7 nd} ms hnd Q2 hq => by
            obtain ⟨rs, h3, h4⟩ := ms.at_
            have lrs : rs.length = k := by rw [DpAll.len h4, List.length_map, lM]
            refine ⟨pen, R, rs, nd, L, rfl, sqL (by rw [wo_at nR]; exact h3), by omega, hnd, ms.pn, fun i v H8 hv s8 p8 => ?_⟩
            obtain ⟨dd, h5, h6⟩ := DpAll.getV h4 hv
            rw [List.getElem?_map] at h5
            obtain ⟨r1, hr1, rfl⟩ := Option.map_eq_some_iff.mp h5
            have h7 := Dp.up (nw_P s8 h1p) _ h6
            obtain ⟨a, rfl, _⟩ := get_ints h7
            exact hq a r1 H8 (List.mem_of_getElem? hr1) s8 (ms.draw nR hpl s8 p8) h7
          refine ⟨_, rfl, ⟨pen, 5, _, L, rfl, by decide, by omega, m6.pn, fun u5 H7 s7 p7 v1 v2 => ?_⟩⟩
          have m7 := m6.draw nR hpl s7 p7
          refine ⟨_, _, rfl, rfl, _, rfl, _, rfl, ?_⟩
          refine pick m7 (by omega) _ fun a1 r1 H8 hr1 s8 m8 d8 => ⟨_, rfl, _, rfl, ?_⟩
          refine pick m8 (by omega) _ fun a2 r2' H9 hr2 s9 m9 d9 => ⟨by show 3 ≤ sizeLine; decide, fun pt hpt => ?_⟩
          have sp := same_new (o := .tup [.int (u5 - 2), .ref a1, .ref a2]) hpt
          refine ⟨pt, _, rfl, sqT upd_same, rfl, _, _, rfl, _, _, rfl, _, _, rfl, rfl, ?_⟩
          have d8' := Dp.up (nw_mono sp) _ (Dp.up (nw_P s9 h1p) _ d8)
          have d9' := Dp.up (nw_mono sp) _ d9
          have m9' := m9.same sp
          revert d8' d9' m9'
          generalize upd H9 pt (.tup [.int (u5 - 2), .ref a1, .ref a2]) = H10
          intro d8' d9' m9'
          obtain ⟨_, e8, q8⟩ := get_ints (Dp.up (nw_le (eH_same _)) _ d8')
          cases e8
          obtain ⟨_, e9, q9⟩ := get_ints (Dp.up (nw_le (eH_same _)) _ d9')
          cases e9
          have l1 : r1.length = wd := RM.2 _ hr1
          have l2 : r2'.length = wd := RM.2 _ hr2
          refine ⟨_, rfl, _, rfl, a1, a2, _, _, rfl, q8, q9, fun D3 hD3 => ?_⟩
          obtain ⟨lD, nDp, nDR, fD⟩ := m9'.low hD3
          refine lc_map (walk_zip (n := wd) (by rw [List.length_map, List.length_map, l1, l2]; omega)) hD3 (fun i v _ => ∃ x : Int, v = .int x ∧ x.natAbs * 3 ≤ 20 * 3 ^ (k + 1)) (fun _ _ _ _ _ z => z) (by omega) (fun _ s => ⟨s.seq q8, s.seq q9⟩) ?_ ?_
          · rintro i x H11 H12 hi s11 hD11 ⟨T', x1, y1, rfl, nT, rfl, e1, e2⟩ N go
            obtain ⟨v1', hv1, rfl⟩ := iv_get e1
            obtain ⟨v2', hv2, rfl⟩ := iv_get e2
            have b1 := bM r1 hr1 v1' (List.mem_of_getElem? hv1)
            have b2 := bM r2' hr2 v2' (List.mem_of_getElem? hv2)
            have sT : Same H11 (upd H11 T' (.tup [.int v1', .int v2'])) := same_new nT
            refine ⟨T', [.int v1', .int v2'], rfl, sqT upd_same, rfl, _, _, rfl, _, _, rfl, rfl, rfl, ?_⟩
            refine ⟨_, rfl, _, rfl, _, _, rfl, rfl, .inl (by omega), _, rfl, _, _, rfl, rfl, go _ _ sT ⟨_, rfl, ?_⟩⟩
            have hu : u5 - 2 = -2 ∨ u5 - 2 = -1 ∨ u5 - 2 = 0 ∨ u5 - 2 = 1 ∨ u5 - 2 = 2 := by omega
            have key : ((u5 - 2) * v1' + v2').natAbs ≤ 2 * v1'.natAbs + v2'.natAbs := by
              rcases hu with e | e | e | e | e <;> rw [e] <;> omega
            omega
          · intro H11 ys s11 f1 f2 f3
            obtain ⟨r', rfl, br'⟩ : ∃ r' : List Int, ys = iv r' ∧ ∀ x ∈ r', x.natAbs * 3 ≤ 20 * 3 ^ (k + 1) := by
              clear f1 f2
              induction ys with
              | nil => exact ⟨[], rfl, fun x h => by cases h⟩
              | cons y ys ih =>
                obtain ⟨x, rfl, hx⟩ := f3 0 y rfl
                obtain ⟨r', e, h⟩ := ih fun i y h => f3 (i + 1) y (by simpa using h)
                exact ⟨x :: r', by rw [e]; rfl, fun z hz => by
                  rcases List.mem_cons.mp hz with rfl | hz
                  · exact hx
                  · exact h z hz⟩
            rw [List.length_map] at f2
            exact hNx _ _ ⟨D3, r', _, _, _, rfl, (m9'.same s11).mono (by omega), mk_ints (by rw [upd_ne nDR]; exact fD) f1, f2, br'⟩
        · rw [decide_eq_false (fun h => e0 (V.int.inj h))]
          exact hNx _ _ ⟨q, r2, _, _, _, rfl, m6.mono (by omega), d6, lr2, skip br2⟩
      · rw [decide_eq_false ek]
        exact hNx _ _ ⟨q, r2, _, _, _, rfl, m5.mono (by omega), d5, lr2, skip br2⟩
    rintro σ2 H6 ⟨q6, r6, y8', y9', y10', rfl, m6, d6, lr6, br6⟩
    obtain ⟨rs, h3, h4⟩ := m6.at_
    have lrs : rs.length = k := by rw [DpAll.len h4, List.length_map, RM.1]
    refine ⟨_, rfl, .inl ⟨rfl, _, sqL h3⟩, _, rfl, R, rs, _, rfl, rfl, h3, Nat.lt_of_lt_of_le (by omega : rs.length < 100000) (by decide), ?_⟩
    refine ⟨M ++ [r6], _, _, _, _, _, rfl, ⟨fun b o e => ?_, (m6.pn.upd lR nR).mono (by omega), _, upd_same, ?_⟩, ⟨by rw [List.length_append, RM.1]; rfl, fun r hr => ?_⟩, fun r hr x hx => ?_⟩
    · have e2 := m6.sp b o e
      have nb : b ≠ R := fun z => by rw [z, wo_at nR, hR] at e; cases e
      rw [upd_ne nb]
      exact e2
    · rw [List.map_append]
      have up := nw_updg (G := eH) (H := H6) (o := .lst (rs ++ [.ref q6])) h1R
      exact DpAll.snoc (Dp.up up _ d6) (DpAll.up up _ h4)
    · rcases List.mem_append.mp hr with hr | hr
      · exact RM.2 r hr
      · rw [List.mem_singleton.mp hr]; exact lr6
    · rcases List.mem_append.mp hr with hr | hr
      · have := bM r hr x hx
        omega
      · rw [List.mem_singleton.mp hr] at hx
        exact br6 x hx
  · rintro σ H2 ⟨M, y5, y6, y8, y9, y10, rfl, ms, RM, bM⟩
    rw [show (m : Int).toNat = m by omega] at ms RM bM
    obtain ⟨sp, pn, rs, h3, h4⟩ := ms
    refine ⟨_, rfl, fin R M _ sp (pn.mono (by omega)) RM (fun r hr x hx => ?_) ?_⟩
    · have := bM r hr x hx
      have h6 : 3 ^ m ≤ 3 ^ 6 := Nat.pow_le_pow_right (by decide) hm
      omega
    · refine .lst (sqL (by rw [nw_new hR]; exact h3)) (DpAll.up (fun b o e => ?_) _ h4)
      cases q : (upd H R (.lst [])) b with
      | none =>
        rw [nw_new q] at e
        rw [nw_new (upd_free q)]
        exact e
      | some u => rw [nw_old q] at e; cases e
end
end K51W

set_option maxHeartbeats 4000000
/-! The law's smaller defs. -/
namespace K51W
open PySem PySem.Spec PyProof.Rows L2 K51
abbrev dLT (M : Mat) : PyData := .list (M.map dTI)
section
variable {P : Program} {w : World} {K : PySem.W.Frag} {mg : Str → Option Value} {base : Heap}
def spExp (K : PySem.W.Frag) : Sp := fun vs H Q _ => ∃ (pen : Addr) (m w most n : Nat) (L : Hp), vs = [.ref pen, .int (m : Int), .int (w : Int), .int (most : Int)] ∧ m ≤ 6 ∧ 0 < w ∧ w ≤ 4 ∧ most ≤ 20 ∧ n ≤ 50000 ∧ PenAt K L H pen n ∧
  ∀ a M H', SameP pen H H' → PenAt K L H' pen (n + 200) → Rect m w M → (∀ r ∈ M, ∀ x ∈ r, x.natAbs ≤ 4860) → Dp K (nw eH H H') (.ref a) (dLT M) → Q (.ref a) H'
theorem ok_law_exponents {f : Addr} {fd : FuncData} (F : Df K "_law_exponents" "_law_exponents" s_law_exponents f fd) (T : Bn mg) (h_law_matrix : Fn P w K mg base 43 "_law_matrix" ["_law_pen_here", "_law_many", "_law_wide", "_law_most"] (spMat K)) :
    FnOk P w K mg base CX0 44 f fd ["_law_pen_here", "_law_many", "_law_wide", "_law_most"] (spExp K) := by
  refine body_ok F sc_law_exponents (fun vs H Q E h => by obtain ⟨p, m, w, most, n, L, rfl, _⟩ := h; rfl) (fun cdv A outer s H vs Q E hr h => ?_)
  obtain ⟨pen, m, wd, mo, n, L, rfl, hm, hw0, hw, hmo, hn, hP, fin⟩ := h
  refine ⟨_, (pss_one (ps_ret (pe_lc (own := [("_law_row", 4)]) (by rfl) sc_law_exponents.nd (piL (K := K) rfl (pe_fn h_law_matrix (hr.mono (by decide)) (by rfl) (pa_cons (pv 0) (pa_cons (pv 1) (pa_cons (pv 2) (pa_cons (pv 3) pa_nil)))))) (blkOk_by (N := ["_law_pen_here", "_law_many", "_law_wide", "_law_most", "_law_row"]) (sc := defScope s_law_exponents) (own := [("_law_row", 4)]) (by decide +kernel)) (fun _ _ _ _ _ => (pg_name (i := 4) sc_law_exponents.nd rfl (Or.inl rfl) (Or.inr rfl))) (fun _ _ _ _ _ => pts_nil) (fun _ _ _ _ _ => (pe_callTy (tupO (K := K) rfl) (by rfl) T.tuple (by decide +kernel) (pa_cons (pv 4) pa_nil)))))), ?_⟩
  refine ⟨_, rfl, _, rfl, _, rfl, _, rfl, ?_⟩
  refine ⟨pen, m, wd, mo, n, L, rfl, hm, hw0, hw, hmo, hn, hP, fun a M H1 s1 p1 R b d1 => ?_⟩
  obtain ⟨_, xs, e, hS, hl, hrow⟩ := get_rows (Dp.up (nw_le (eH_same _)) _ d1)
  cases e
  have lM : M.length = m := R.1
  refine ⟨a, rfl, ⟨xs, hS⟩, fun D hD => ?_⟩
  have hpl := hP.live
  have nD : D ≠ pen := fun z => p1.live (z ▸ hD)
  have old : ∀ {q}, H1 q = none → H q = none := fun {q} e => by
    have nq : q ≠ pen := fun z => p1.live (z ▸ e)
    have := Same.free s1 e
    rwa [wo_at nq] at this
  refine lc_map walk_list hD (fun i v G => i < m ∧ Dp K (nw eH H G) v (dTI (M.getD i []))) (fun i v G G' s d => ⟨d.1, Dp.up (nw_mono s) _ d.2⟩) (by omega) (fun _ s => s.seq hS) ?_ ?_
  · rintro i x H2 H3 hi s2 hD2 ⟨rfl, ex⟩ N go
    have him : i < m := by omega
    obtain ⟨p, gp, qp⟩ := hrow i _ (getD_at (by rw [lM]; exact him))
    cases ex.symm.trans gp
    refine ⟨rfl, _, rfl, p, _, rfl, .inl ⟨s2.seq qp, fun Z hZ => go _ _ (same_new hZ) ⟨him, .tup (sqT ?_) (DpAll.ints _)⟩⟩⟩
    rw [nw_new (old (s2.free hZ)), wo_at (ne_new hD2 hZ), upd_same]
  · intro H2 ys s2 f1 f2 f3
    refine fin D M _ (s1.trans (SameP.of s2)) (p1.same s2) R b (.lst (sqL (by rw [nw_new (old hD)]; exact f1)) (DpAll.of (by rw [f2, List.length_map, hl]) fun j v d hv hd => ?_))
    obtain ⟨hj, d2⟩ := f3 j v hv
    rw [List.getElem?_map, getD_at (by rw [lM]; exact hj)] at hd
    cases hd
    exact Dp.up (nw_mono wo_le) _ d2
def spLTu (K : PySem.W.Frag) : Sp := fun vs H Q _ => ∃ (v : V) (M : Mat) (m w : Nat), vs = [v] ∧ Dp K H v (dLT M) ∧ Rect m w M ∧ 0 < m ∧ m ≤ 100 ∧ w ≤ 100 ∧ ∀ v' H', Same H H' → Dp K (nw eH H H') v' (dM (turnM w M)) → Q v' H'
theorem ok_law_turned {f : Addr} {fd : FuncData} (F : Df K "_law_turned" "_law_turned" s_law_turned f fd) (T : Bn mg) : FnOk P w K mg base CX0 41 f fd ["_law_rows"] (spLTu K) := by
  refine body_ok F sc_law_turned (fun vs H Q E h => by obtain ⟨v, M, m, w, rfl, _⟩ := h; rfl) (fun cdv A outer s H vs Q E hr h => ?_)
  obtain ⟨v, M, m, n, rfl, dv, R, h0, hm, hn, fin⟩ := h
  obtain ⟨a, xs, rfl, hS, dx⟩ := Dp.lstI dv
  have lM : M.length = m := R.1
  have lx : xs.length = m := by rw [DpAll.len dx, List.length_map, lM]
  have row : ∀ i, i < m → ∃ p, xs[i]? = some (.ref p) ∧ SqT K H p (iv (M.getD i [])) := fun i hi => by
    obtain ⟨v, h1, h2⟩ := DpAll.get (i := i) (d := dTI (M.getD i [])) dx (by rw [List.getElem?_map, getD_at (by rw [lM]; exact hi)]; rfl)
    obtain ⟨p, zs, rfl, h3, h4⟩ := Dp.tupI h2
    rw [DpAll.ints_inv h4] at h3
    exact ⟨p, h1, h3⟩
  refine ⟨_, (pss_one (ps_ret (pe_lc (own := [("_law_k", 2)]) (by rfl) sc_law_turned.nd (pi_range1 (by rfl) T.range (pa_cons (pe_callB (lenS (K := K) rfl) (by rfl) T.len (by decide +kernel) (pa_cons (pe_ix (ixL (K := K) rfl) (pv 0) pe_int (fun _ _ => rfl)) pa_nil)) pa_nil)) (blkOk_by (N := ["_law_rows", "_law_row", "_law_k"]) (sc := defScope s_law_turned) (own := [("_law_k", 2)]) (by decide +kernel)) (fun _ _ _ _ _ => (pg_name (i := 2) sc_law_turned.nd rfl (Or.inr rfl) (Or.inl rfl))) (fun _ _ _ _ _ => pts_nil) (fun _ _ _ _ _ => (pe_lc (own := [("_law_row", 1)]) (by rfl) sc_law_turned.nd (piL (K := K) rfl (pv 0)) (blkOk_by (own := [("_law_row", 1)]) (by kernel_rfl)) (fun _ _ _ _ _ => (pg_name (i := 1) sc_law_turned.nd rfl (Or.inl rfl) (Or.inr rfl))) (fun _ _ _ _ _ => pts_nil) (fun _ _ _ _ _ => (pe_ix (ixT (K := K) rfl) (pv 1) (pv 2) (fun _ _ => rfl)))))))), ?_⟩
  obtain ⟨p0, g0, q0⟩ := row 0 h0
  have l0 : (M.getD 0 []).length = n := R.row h0
  refine ⟨_, rfl, a, xs, 0, _, rfl, rfl, hS, atI_nat (j := 0) g0, p0, _, rfl, .inr q0, n, congrArg (fun z : Nat => [V.int (z : Int)]) (by rw [List.length_map, l0] : (iv (M.getD 0 [])).length = n), by omega, by omega, fun D hD => ?_⟩
  refine lc_map (n := n) walk_range hD (fun k v G => k < n ∧ Dp K (nw eH H G) v (dI (M.map fun r : List Int => r.getD k 0))) (fun i v G G' s d => ⟨d.1, Dp.up (nw_mono s) _ d.2⟩) (by omega) (fun _ _ => trivial) ?_ ?_
  · rintro k x H2 H3 hk s2 hD2 ⟨rfl, rfl⟩ N go
    have ek : (0 : Int) + (k : Int) = (k : Int) := by omega
    refine ⟨rfl, _, rfl, a, rfl, ⟨xs, s2.seq hS⟩, fun D2 hD3 => ?_⟩
    refine lc_map walk_list hD3 (fun i v _ => i < m ∧ v = .int ((M.getD i []).getD k 0)) (fun _ _ _ _ _ z => z) (by omega) (fun _ s => s.seq (s2.seq hS)) ?_ ?_
    · rintro i y H4 H5 hi s4 hD5 ⟨rfl, ex⟩ N2 go2
      have him : i < m := by omega
      obtain ⟨p, gp, qp⟩ := row i him
      cases ex.symm.trans gp
      exact ⟨rfl, _, rfl, _, rfl, p, _, _, _, rfl, rfl, Same.seqT (s2.trans s4) qp, at_of ek (iv_getD (R.row him) hk), go2 _ _ (Same.refl _) ⟨him, rfl⟩⟩
    · intro H4 ys s4 f1 f2 f3
      have ey : ys = iv (M.map fun r : List Int => r.getD k 0) := ext_of (by rw [f2, List.length_map, List.length_map, lx, lM]) fun j y z hy hz => by
        obtain ⟨hj, rfl⟩ := f3 j y hy
        rw [List.getElem?_map, List.getElem?_map, getD_at (by rw [lM]; exact hj)] at hz
        exact Option.some.inj hz
      subst ey
      have nD : D2 ≠ D := fun z => hD2 (z ▸ hD3)
      refine go _ _ s4 ⟨hk, mk_ints (s2.free hD3) ?_⟩
      rw [wo_at nD]
      exact f1
  · intro H2 ys s2 f1 f2 f3
    refine fin _ _ s2 (.lst (sqL (by rw [nw_new hD]; exact f1)) (DpAll.of (by rw [f2]; simp [turnM]) fun j v d hv hd => ?_))
    obtain ⟨hj, d2⟩ := f3 j v hv
    unfold turnM at hd
    rw [List.getElem?_map, List.getElem?_map, List.getElem?_range hj] at hd
    cases hd
    exact Dp.up (nw_mono wo_le) _ d2
/-- two lists, two tuples, or a tuple and a list -/
def InnS (K : PySem.W.Frag) (H : Hp) (v u : V) (r c : List Int) : Prop := ∃ a b, v = .ref a ∧ u = .ref b ∧ ((SqL K H a (iv r) ∧ SqL K H b (iv c)) ∨ (SqT K H a (iv r) ∧ SqT K H b (iv c)) ∨ (SqT K H a (iv r) ∧ SqL K H b (iv c)))
def spInn (K : PySem.W.Frag) : Sp := fun vs H Q _ => ∃ (v u : V) (r c : List Int), vs = [v, u] ∧ InnS K H v u r c ∧ r.length = c.length ∧ r.length ≤ 100 ∧ (∀ (i : Nat) (x y : Int), r[i]? = some x → c[i]? = some y → Mul x y) ∧ ∀ H', Same H H' → Q (.int (inner r c)) H'
theorem ok_law_inner {f : Addr} {fd : FuncData} (F : Df K "_law_inner" "_law_inner" s_law_inner f fd) (T : Bn mg) : FnOk P w K mg base CX0 41 f fd ["_law_row", "_law_column"] (spInn K) := by
  refine body_ok F sc_law_inner (fun vs H Q E h => by obtain ⟨v, u, r, c, rfl, _⟩ := h; rfl) (fun cdv A outer s H vs Q E hr h => ?_)
  obtain ⟨v, u, r, c, rfl, ⟨a, b, rfl, rfl, hab⟩, hl, hn, hm, fin⟩ := h
  refine ⟨_, (pss_one (ps_ret (pe_callB (sumK (K := K) rfl rfl) (by rfl) T.sum (by decide +kernel) (pa_cons (pe_lc (own := [("_law_one", 2), ("_law_two", 3)]) (by rfl) sc_law_inner.nd (piZ3 (K := K) rfl (by rfl) T.zip (pa_cons (pv 0) (pa_cons (pv 1) pa_nil)) rfl rfl) (blkOk_by (N := ["_law_row", "_law_column", "_law_one", "_law_two"]) (sc := defScope s_law_inner) (own := [("_law_one", 2), ("_law_two", 3)]) (by decide +kernel)) (fun _ _ _ _ _ => (tupG (K := K) (n := 2) rfl rfl (pgs_cons (pg_name (i := 2) sc_law_inner.nd rfl (Or.inl rfl) (Or.inr rfl)) (pgs_cons (pg_name (i := 3) sc_law_inner.nd rfl (Or.inl rfl) (Or.inr rfl)) pgs_nil)) rfl rfl)) (fun _ _ _ _ _ => pts_nil) (fun _ _ _ _ _ => (pe_op op_mulP (pv 2) (pv 3)))) pa_nil)))), ?_⟩
  have l2 : r.length = min (iv r).length (iv c).length := by rw [List.length_map, List.length_map]; omega
  rcases hab with ⟨q1, q2⟩ | ⟨q1, q2⟩ | ⟨q1, q2⟩
  case' inl =>
    have wk := walk_zip (K := K) (a := a) (b := b) l2
    have hG : ∀ H', Same H H' → SqL K H' a (iv r) ∧ SqL K H' b (iv c) := fun H' s => ⟨s.seq q1, s.seq q2⟩
    refine ⟨_, rfl, _, rfl, a, b, _, _, rfl, .inl ⟨q1, q2, fun D hD => ?_⟩⟩
  case' inr.inl =>
    have wk := walk_zt (K := K) (a := a) (b := b) l2
    have hG : ∀ H', Same H H' → SqT K H' a (iv r) ∧ SqT K H' b (iv c) := fun H' s => ⟨Same.seqT s q1, Same.seqT s q2⟩
    refine ⟨_, rfl, _, rfl, a, b, _, _, rfl, .inr (.inl ⟨q1, q2, fun D hD => ?_⟩)⟩
  case' inr.inr =>
    have wk := walk_zm (K := K) (a := a) (b := b) l2
    have hG : ∀ H', Same H H' → SqT K H' a (iv r) ∧ SqL K H' b (iv c) := fun H' s => ⟨Same.seqT s q1, s.seq q2⟩
    refine ⟨_, rfl, _, rfl, a, b, _, _, rfl, .inr (.inr ⟨q1, q2, fun D hD => ?_⟩)⟩
  all_goals
    refine lc_map wk hD (fun i v _ => ∃ x y : Int, r[i]? = some x ∧ c[i]? = some y ∧ v = .int (x * y)) (fun _ _ _ _ _ z => z) (by omega) (fun _ s => hG _ s) ?_ ?_
    · rintro i z H2 H3 hi s2 hD2 ⟨T', x1, y1, rfl, nT, rfl, e1, e2⟩ N go
      obtain ⟨x, hx, rfl⟩ := iv_get e1
      obtain ⟨y, hy, rfl⟩ := iv_get e2
      exact ⟨T', [.int x, .int y], rfl, sqT upd_same, rfl, _, _, rfl, _, _, rfl, rfl, rfl, _, rfl, _, rfl, _, _, rfl, rfl, hm i x y hx hy, go _ _ (same_new nT) ⟨x, y, hx, hy, rfl⟩⟩
    · intro H2 ys s2 f1 f2 f3
      have ey : ys = iv (List.zipWith (fun a b => a * b) r c) := ext_of (by rw [f2, List.length_map, List.length_zipWith]; omega) fun j v z hv hz => by
        obtain ⟨x, y, hx, hy, rfl⟩ := f3 j v hv
        rw [List.getElem?_map, List.getElem?_zipWith, hx, hy] at hz
        exact Option.some.inj hz
      subst ey
      exact ⟨D, _, rfl, sqL f1, fin _ s2⟩
theorem InnS.same {H H' : Hp} {v u : V} {r c : List Int} (h : InnS K H v u r c) (s : Same H H') : InnS K H' v u r c := by
  obtain ⟨a, b, e1, e2, h⟩ := h
  refine ⟨a, b, e1, e2, ?_⟩
  rcases h with ⟨q1, q2⟩ | ⟨q1, q2⟩ | ⟨q1, q2⟩
  · exact .inl ⟨s.seq q1, s.seq q2⟩
  · exact .inr (.inl ⟨Same.seqT s q1, Same.seqT s q2⟩)
  · exact .inr (.inr ⟨Same.seqT s q1, s.seq q2⟩)
def spUnit (K : PySem.W.Frag) : Sp := fun vs H Q _ => ∃ (v u : V) (A : Mat) (m w : Nat) (p : List Int), vs = [v, u] ∧ Dp K H v (dLT A) ∧ Rect m w A ∧ 0 < m ∧ m ≤ 100 ∧ w ≤ 100 ∧ IntsS K H u p ∧ p.length = m ∧ (∀ (i j : Nat) (x : Int), p[i]? = some x → Mul x (ent A i j)) ∧ ∀ v' H', Same H H' → Dp K (nw eH H H') v' (dI (unitsOf A w p)) → Q v' H'
theorem ok_law_unit_of {f : Addr} {fd : FuncData} (F : Df K "_law_unit_of" "_law_unit_of" s_law_unit_of f fd) (T : Bn mg) (h_law_turned : Fn P w K mg base 41 "_law_turned" ["_law_rows"] (spLTu K)) (h_law_inner : Fn P w K mg base 41 "_law_inner" ["_law_row", "_law_column"] (spInn K)) :
    FnOk P w K mg base CX0 42 f fd ["_law_exponents_here", "_law_powers"] (spUnit K) := by
  refine body_ok F sc_law_unit_of (fun vs H Q E h => by obtain ⟨v, u, A, m, w, p, rfl, _⟩ := h; rfl) (fun cdv A outer s H vs Q E hr h => ?_)
  obtain ⟨v, u, A, m, n, p, rfl, dv, R, h0, hm, hn, ⟨b, rfl, hb⟩, lp, hM, fin⟩ := h
  refine ⟨_, (pss_one (ps_ret (pe_lc (own := [("_law_column", 2)]) (by rfl) sc_law_unit_of.nd (piL (K := K) rfl (pe_fn h_law_turned (hr.mono (by decide)) (by rfl) (pa_cons (pv 0) pa_nil))) (blkOk_by (N := ["_law_exponents_here", "_law_powers", "_law_column"]) (sc := defScope s_law_unit_of) (own := [("_law_column", 2)]) (by decide +kernel)) (fun _ _ _ _ _ => (pg_name (i := 2) sc_law_unit_of.nd rfl (Or.inl rfl) (Or.inr rfl))) (fun _ _ _ _ _ => pts_nil) (fun _ _ _ _ _ => (pe_fn h_law_inner (hr.mono (by decide)) (by rfl) (pa_cons (pv 1) (pa_cons (pv 2) pa_nil))))))), ?_⟩
  have rT : Rect n m (turnM n A) := turn_rect R.1
  refine ⟨_, rfl, ⟨v, A, m, n, rfl, dv, R, h0, hm, hn, fun v1 H1 s1 d1 => ?_⟩⟩
  obtain ⟨a, xs, rfl, hS, hl, hrow⟩ := get_rows (Dp.up (nw_le (eH_same _)) _ d1)
  refine ⟨a, rfl, ⟨xs, hS⟩, fun D hD => ?_⟩
  refine lc_map walk_list hD (fun i v _ => i < n ∧ v = .int (inner p ((turnM n A).getD i []))) (fun _ _ _ _ _ z => z) (by rw [hl, rT.1]; omega) (fun _ s => s.seq hS) ?_ ?_
  · rintro i x H2 H3 hi s2 hD2 ⟨rfl, ex⟩ N go
    have him : i < n := by rw [hl, rT.1] at hi; exact hi
    obtain ⟨q, gq, hq⟩ := hrow i _ (getD_at (by rw [rT.1]; exact him))
    cases ex.symm.trans gq
    have lc : ((turnM n A).getD i []).length = m := rT.row him
    refine ⟨rfl, _, rfl, _, rfl, ?_⟩
    refine ⟨_, _, p, (turnM n A).getD i [], rfl, ⟨b, q, rfl, rfl, ?_⟩, by rw [lp, lc], by omega, fun j x y hx hy => ?_, fun H4 s4 => go _ _ s4 ⟨him, rfl⟩⟩
    · rcases hb with hb | hb
      · exact .inl ⟨(s1.trans s2).seq hb, s2.seq hq⟩
      · exact .inr (.inr ⟨Same.seqT (s1.trans s2) hb, s2.seq hq⟩)
    · have e1 : y = ent (turnM n A) i j := by
        unfold ent
        rw [List.getD_eq_getElem?_getD (l := (turnM n A).getD i []), hy]
        rfl
      rw [e1, turn_ent him]
      exact hM j i x hx
  · intro H2 ys s2 f1 f2 f3
    have ey : ys = iv (unitsOf A n p) := ext_of (by rw [f2, List.length_map]; unfold unitsOf; rw [List.length_map, hl]) fun j v z hv hz => by
      obtain ⟨hj, rfl⟩ := f3 j v hv
      unfold unitsOf at hz
      rw [List.getElem?_map, List.getElem?_map, getD_at (by rw [rT.1]; exact hj)] at hz
      exact Option.some.inj hz
    subst ey
    exact fin _ _ (s1.trans s2) (mk_ints (s1.free hD) f1)
def spGcd : Sp := fun vs H Q _ => ∃ a b : Int, vs = [.int a, .int b] ∧ EndsIn 60000 a.natAbs b.natAbs ∧ Q (.int ((Int.gcd a b : Nat) : Int)) H
theorem ok_law_gcd {f : Addr} {fd : FuncData} (F : Df K "_law_gcd" "_law_gcd" s_law_gcd f fd) (T : Bn mg) : FnOk P w K mg base CX0 41 f fd ["_law_one", "_law_two"] spGcd := by
  refine body_ok F sc_law_gcd (fun vs H Q E h => by obtain ⟨a, b, rfl, _⟩ := h; rfl) (fun cdv A outer s H vs Q E hr h => ?_)
  obtain ⟨a, b, rfl, hE, q⟩ := h
  refine ⟨_, (pss_cons (ps_par (i := 0) (j := 1) (by rfl) sc_law_gcd.nd rfl rfl (by decide) rfl rfl (pa_cons (pe_callB call_abs (by rfl) T.abs (by decide +kernel) (pa_cons (pv 0) pa_nil)) (pa_cons (pe_callB call_abs (by rfl) T.abs (by decide +kernel) (pa_cons (pv 1) pa_nil)) pa_nil)) (by rfl))
      (pss_cons (ps_for PassesOwn.never rfl (pi_range1 (by rfl) T.range (pa_cons pe_int pa_nil)) (pg_name (i := 2) sc_law_gcd.nd rfl (Or.inl rfl) (Or.inr rfl))
      (pss_cons (ps_if (pt_cmpR op_eq (pv 1) pe_int (nomark _)) (pss_one ps_break) pss_nil)
      (pss_one (ps_par (i := 0) (j := 1) (by rfl) sc_law_gcd.nd rfl rfl (by decide) rfl rfl (pa_cons (pv 1) (pa_cons (pe_op op_modN (pe_callTy call_int1 (by rfl) T.int (by decide +kernel) (pa_cons (pv 0) pa_nil)) (pv 1)) pa_nil)) (by rfl)))))
      (pss_one (ps_ret (pv 0))))), ?_⟩
  have ab : ∀ z : Int, (if z < 0 then -z else z) = (z.natAbs : Int) := fun z => by split <;> omega
  refine ⟨_, rfl, a, rfl, _, rfl, b, rfl, _, _, rfl, ?_⟩
  refine ⟨60000, rfl, by decide, by decide, ?_⟩
  refine for_it walk_range (fun i σ H' => ∃ (x y : Nat) (z : Option V), σ = [some (.int (x : Int)), some (.int (y : Int)), z] ∧ EndsIn (60000 - i) x y ∧ Nat.gcd x y = Int.gcd a b ∧ H' = H)
    ⟨a.natAbs, b.natAbs, none, by rw [ab, ab]; rfl, hE, rfl, rfl⟩ (fun _ _ _ _ _ => trivial) ?_ ?_
  · rintro i xv σ H1 H2 hi ⟨x, y, z, rfl, hE, hg, rfl⟩ ⟨rfl, rfl⟩
    refine ⟨_, rfl, rfl, _, rfl, ?_⟩
    by_cases hy : y = 0
    · subst hy
      rw [decide_eq_true (show V.int ((0 : Nat) : Int) = V.int 0 from rfl)]
      rw [Nat.gcd_zero_right] at hg
      refine ⟨_, rfl, ?_⟩
      rw [hg]
      exact q
    · rw [decide_eq_false (fun h => hy (by have := V.int.inj h; omega))]
      have hi2 : i < 60000 := hi
      have hE2 : EndsIn ((60000 - (i + 1)) + 1) x y := by
        rw [show (60000 - (i + 1)) + 1 = 60000 - i by omega]
        exact hE
      have hE3 := hE2.resolve_left hy
      refine ⟨_, rfl, _, rfl, .inl ⟨_, rfl, _, rfl, _, _, rfl, rfl, by omega, _, _, rfl, ?_⟩⟩
      refine ⟨y, x % y, some (.int (0 + (i : Int))), ?_, hE3, ?_, rfl⟩
      · have : Int.fmod (x : Int) (y : Int) = ((x % y : Nat) : Int) := by
          rw [Int.fmod_eq_emod_of_nonneg _ (by omega)]
          rfl
        show [some (V.int (y : Int)), some (V.int (Int.fmod (x : Int) (y : Int))), _] = _
        rw [this]
      · rw [← hg, Nat.gcd_comm x y, Nat.gcd_rec y x, Nat.gcd_comm]
  · rintro σ H1 ⟨x, y, z, rfl, hE, hg, rfl⟩
    have hy : y = 0 := by
      have : (60000 : Int).toNat = 60000 := rfl
      rw [this, Nat.sub_self] at hE
      exact hE
    subst hy
    rw [Nat.gcd_zero_right] at hg
    refine ⟨_, rfl, ?_⟩
    rw [hg]
    exact q
def spQ : Sp := fun vs H Q _ => ∃ t b : Int, vs = [.int t, .int b] ∧ b ≠ 0 ∧ EndsIn 60000 t.natAbs b.natAbs ∧ ∀ p H', Same H H' → H p = none → H' p = some (.tup (rp (Rat.divInt t b))) → Q (.ref p) H'
theorem ok_law_q {f : Addr} {fd : FuncData} (F : Df K "_law_q" "_law_q" s_law_q f fd) (B : Big P base) (h_law_gcd : Fn P w K mg base 41 "_law_gcd" ["_law_one", "_law_two"] spGcd) : FnOk P w K mg base CX0 42 f fd ["_law_top", "_law_bottom"] spQ := by
  refine body_ok F sc_law_q (fun vs H Q E h => by obtain ⟨a, b, rfl, _⟩ := h; rfl) (fun cdv A outer s H vs Q E hr h => ?_)
  obtain ⟨t, b, rfl, hb, hE, q⟩ := h
  refine ⟨_, (pss_cons (ps_set (i := 2) sc_law_q.nd rfl (Or.inl rfl) (pe_fn h_law_gcd (hr.mono (by decide)) (by rfl) (pa_cons (pv 0) (pa_cons (pv 1) pa_nil))))
      (pss_cons (ps_if (pt_cmpR op_lt (pv 1) pe_int (nomark _)) (pss_one (ps_set (i := 2) sc_law_q.nd rfl (Or.inl rfl) (pe_un un_neg (pv 2)))) pss_nil)
      (pss_one (ps_ret (pe_tup (pa_cons (pe_op (op_fdivP B ⟨_, _, rfl, rfl, rfl, rfl, rfl⟩ (hr.mono (by decide))) (pv 0) (pv 2)) (pa_cons (pe_op (op_fdivP B ⟨_, _, rfl, rfl, rfl, rfl, rfl⟩ (hr.mono (by decide))) (pv 1) (pv 2)) pa_nil))))))), ?_⟩
  obtain ⟨g0, e1, e2⟩ := lowest_eq t hb
  refine ⟨_, rfl, _, rfl, t, b, rfl, hE, ?_⟩
  refine ⟨_, rfl, _, _, rfl, rfl, _, rfl, ?_⟩
  have fin : ∀ by_ : Int, by_ ≠ 0 → t.fdiv by_ = (Rat.divInt t b).num → b.fdiv by_ = ((Rat.divInt t b).den : Int) → ∀ p, H p = none → Q (.ref p) (upd H p (.tup [.int (t.fdiv by_), .int (b.fdiv by_)])) := fun by_ h0 h1 h2 p hp => by
    rw [h1, h2]
    exact q p _ (same_new hp) hp upd_same
  by_cases hn : b < 0
  · rw [decide_eq_true hn]
    rw [if_pos hn] at g0 e1 e2
    refine ⟨_, rfl, _, rfl, ?_⟩
    exact ⟨_, rfl, _, rfl, _, _, rfl, rfl, g0, _, rfl, _, rfl, _, _, rfl, rfl, g0, by show 2 ≤ sizeLine; decide, fin _ g0 e1 e2⟩
  · rw [decide_eq_false hn]
    rw [if_neg hn] at g0 e1 e2
    exact ⟨_, rfl, _, rfl, _, _, rfl, rfl, g0, _, rfl, _, rfl, _, _, rfl, rfl, g0, by show 2 ≤ sizeLine; decide, fin _ g0 e1 e2⟩
theorem ok_law_is_whole {f : Addr} {fd : FuncData} (F : Df K "_law_is_whole" "_law_is_whole" s_law_is_whole f fd) (T : Bn mg) : FnOk P w K mg base CX0 41 f fd ["_law_value"] spIsW := by
  refine body_ok F sc_law_is_whole (fun vs H Q E h => by obtain ⟨i, rfl, _⟩ := h; rfl) (fun cdv A outer s H vs Q E hr h => ?_)
  obtain ⟨i, rfl, q⟩ := h
  refine ⟨_, (pss_one (ps_ret (pe_and (pe_callB (isiK (K := K) rfl) (by rfl) T.isinstance (by decide +kernel) (pa_cons (pv 0) (pa_cons (pe_bltn (v := .ty "int") (by rfl) T.int (by decide +kernel) rfl) pa_nil))) (pe_one (pe_not (pe_callB (isiK (K := K) rfl) (by rfl) T.isinstance (by decide +kernel) (pa_cons (pv 0) (pa_cons (pe_bltn (v := .ty "bool") (by rfl) T.bool (by decide +kernel) rfl) pa_nil)))))))), ?_⟩
  refine ⟨_, rfl, _, _, _, _, true, rfl, .ty _, .base (.int i), kit_ty (by decide), ?_⟩
  exact ⟨_, rfl, _, rfl, _, _, _, _, false, rfl, .ty _, .base (.int i), kit_ty (by decide), _, rfl, q⟩
def spIsR (K : PySem.W.Frag) : Sp := fun vs H Q _ => ∃ (p : Addr) (r : Rat), vs = [.ref p] ∧ SqT K H p (rp r) ∧ EndsIn 60000 r.num.natAbs r.den ∧ Q (.bl true) H
theorem ok_law_is_ratio {f : Addr} {fd : FuncData} (F : Df K "_law_is_ratio" "_law_is_ratio" s_law_is_ratio f fd) (T : Bn mg) (h_law_is_whole : Fn P w K mg base 41 "_law_is_whole" ["_law_value"] spIsW) (h_law_gcd : Fn P w K mg base 41 "_law_gcd" ["_law_one", "_law_two"] spGcd) :
    FnOk P w K mg base CX0 42 f fd ["_law_value"] (spIsR K) := by
  refine body_ok F sc_law_is_ratio (fun vs H Q E h => by obtain ⟨p, r, rfl, _⟩ := h; rfl) (fun cdv A outer s H vs Q E hr h => ?_)
  obtain ⟨p, r, rfl, hp, hE, q⟩ := h
  refine ⟨_, (pss_cons (ps_if (PW.pt (pw_or (pt_not (pt_val (pe_callB (isiK (K := K) rfl) (by rfl) T.isinstance (by decide +kernel) (pa_cons (pv 0) (pa_cons (pe_bltn (v := .ty "tuple") (by rfl) T.tuple (by decide +kernel) rfl) pa_nil))))) (pw_or1 (pt_cmpR op_ne (pe_callB (lenS (K := K) rfl) (by rfl) T.len (by decide +kernel) (pa_cons (pv 0) pa_nil)) pe_int (nomark _))))) (pss_one (ps_ret pe_bl)) pss_nil)
      (pss_cons (ps_if (PW.pt (pw_or (pt_not (pt_val (pe_fn h_law_is_whole (hr.mono (by decide)) (by rfl) (pa_cons (pe_ix (ixT (K := K) rfl) (pv 0) pe_int (fun _ _ => rfl)) pa_nil)))) (pw_or (pt_not (pt_val (pe_fn h_law_is_whole (hr.mono (by decide)) (by rfl) (pa_cons (pe_ix (ixT (K := K) rfl) (pv 0) pe_int (fun _ _ => rfl)) pa_nil)))) (pw_or1 (pt_cmpR op_le (pe_ix (ixT (K := K) rfl) (pv 0) pe_int (fun _ _ => rfl)) pe_int (nomark _)))))) (pss_one (ps_ret pe_bl)) pss_nil)
      (pss_one (ps_ret (pe_cmpR op_eq (pe_fn h_law_gcd (hr.mono (by decide)) (by rfl) (pa_cons (pe_ix (ixT (K := K) rfl) (pv 0) pe_int (fun _ _ => rfl)) (pa_cons (pe_ix (ixT (K := K) rfl) (pv 0) pe_int (fun _ _ => rfl)) pa_nil))) pe_int (nomark _)))))), ?_⟩
  refine ⟨_, rfl, _, _, _, _, true, rfl, .ty _, tyx_t hp, kit_ty (by decide), _, rfl, ?_⟩
  refine ⟨_, rfl, p, _, rfl, .inr hp, rfl, _, rfl, ?_⟩
  dsimp only [tNext]
  refine ⟨_, rfl, p, _, _, _, rfl, rfl, hp, at0 r, _, rfl, _, rfl, ?_⟩
  refine ⟨_, rfl, p, _, _, _, rfl, rfl, hp, at1 r, _, rfl, _, rfl, ?_⟩
  refine ⟨_, rfl, p, _, _, _, rfl, rfl, hp, at1 r, _, _, rfl, rfl, _, rfl, ?_⟩
  have hd := r.den_pos
  rw [decide_eq_false (by omega)]
  refine ⟨_, rfl, p, _, _, _, rfl, rfl, hp, at0 r, _, rfl, p, _, _, _, rfl, rfl, hp, at1 r, _, _, rfl, hE, rfl, ?_⟩
  have h1 : Int.gcd r.num ((r.den : Nat) : Int) = 1 := r.reduced
  rw [h1, decide_eq_true (show V.int ((1 : Nat) : Int) = V.int 1 from rfl)]
  exact q
theorem keep_nil {n : Nat} {ys : List V} (h : ys.length = ((List.range n).filter fun _ => false).length) : ys = [] := by
  rw [List.filter_eq_nil_iff.mpr fun _ _ z => Bool.noConfusion z] at h
  exact List.length_eq_zero_iff.mp h
theorem nil_eq : PyData.eqv (.list []) (.list []) = true := eqv_nilL []
def spGrp (K : PySem.W.Frag) : Sp := fun vs H Q _ => ∃ (v u : V) (A : Mat) (m w : Nat) (p : List Int), vs = [v, u] ∧ Dp K H u (dLT A) ∧ Rect m w A ∧ 0 < m ∧ m ≤ 100 ∧ w ≤ 100 ∧ Dp K H v (dTI p) ∧ p.length = m ∧ (∀ (i j : Nat) (x : Int), p[i]? = some x → Mul x (ent A i j)) ∧ (∀ x ∈ unitsOf A w p, x = 0) ∧ ∀ H', Same H H' → Q (.bl true) H'
theorem ok_law_is_group {f : Addr} {fd : FuncData} (F : Df K "_law_is_group" "_law_is_group" s_law_is_group f fd) (T : Bn mg) (h_law_is_whole : Fn P w K mg base 41 "_law_is_whole" ["_law_value"] spIsW) (h_law_unit_of : Fn P w K mg base 42 "_law_unit_of" ["_law_exponents_here", "_law_powers"] (spUnit K)) :
    FnOk P w K mg base CX0 43 f fd ["_law_value", "_law_exponents_here"] (spGrp K) := by
  refine body_ok F sc_law_is_group (fun vs H Q E h => by obtain ⟨v, u, A, m, w, p, rfl, _⟩ := h; rfl) (fun cdv A outer s H vs Q E hr h => ?_)
  obtain ⟨v, u, A, m, n, p, rfl, du, R, h0, hm, hn, dv, lp, hM, hz, fin⟩ := h
  obtain ⟨a, xs, rfl, qa, da⟩ := Dp.tupI dv
  have exs := DpAll.ints_inv da
  subst exs
  refine ⟨_, (pss_cons (ps_if (PW.pt (pw_or (pt_not (pt_val (pe_callB (isiK (K := K) rfl) (by rfl) T.isinstance (by decide +kernel) (pa_cons (pv 0) (pa_cons (pe_bltn (v := .ty "tuple") (by rfl) T.tuple (by decide +kernel) rfl) pa_nil))))) (pw_or1 (pt_cmpR op_ne (pe_callB (lenS (K := K) rfl) (by rfl) T.len (by decide +kernel) (pa_cons (pv 0) pa_nil)) (pe_callB (lenS (K := K) rfl) (by rfl) T.len (by decide +kernel) (pa_cons (pv 1) pa_nil)) (nomark _))))) (pss_one (ps_ret pe_bl)) pss_nil)
      (pss_cons (ps_if (pt_cmpR (neD (K := K) rfl hr.units) (pe_lc (own := [("_law_one", 2)]) (by rfl) sc_law_is_group.nd (piT (K := K) rfl (pv 0)) (blkOk_by (N := ["_law_value", "_law_exponents_here", "_law_one"]) (sc := defScope s_law_is_group) (own := [("_law_one", 2)]) (by decide +kernel)) (fun _ _ _ _ _ => (pg_name (i := 2) sc_law_is_group.nd rfl (Or.inl rfl) (Or.inr rfl))) (fun _ _ _ _ _ => (pts_one (pt_not (pt_val (pe_fn h_law_is_whole (hr.mono (by decide)) (by rfl) (pa_cons (pv 2) pa_nil)))))) (fun _ _ _ _ _ => (pv 2))) (pe_lst pa_nil) (nomark _)) (pss_one (ps_ret pe_bl)) pss_nil)
      (pss_one (ps_ret (pe_cmpR (eqD (K := K) rfl hr.units) (pe_lc (own := [("_law_one", 2)]) (by rfl) sc_law_is_group.nd (piL (K := K) rfl (pe_fn h_law_unit_of (hr.mono (by decide)) (by rfl) (pa_cons (pv 1) (pa_cons (pv 0) pa_nil)))) (blkOk_by (N := ["_law_value", "_law_exponents_here", "_law_one"]) (sc := defScope s_law_is_group) (own := [("_law_one", 2)]) (by decide +kernel)) (fun _ _ _ _ _ => (pg_name (i := 2) sc_law_is_group.nd rfl (Or.inl rfl) (Or.inr rfl))) (fun _ _ _ _ _ => (pts_one (pt_cmpR op_ne (pv 2) pe_int (nomark _)))) (fun _ _ _ _ _ => (pv 2))) (pe_lst pa_nil) (nomark _)))))), ?_⟩
  obtain ⟨b, ys, rfl, qb, db⟩ := Dp.lstI du
  have ly : ys.length = m := by rw [DpAll.len db, List.length_map, R.1]
  refine ⟨_, rfl, _, _, _, _, true, rfl, .ty _, tyx_t qa, kit_ty (by decide), _, rfl, ?_⟩
  refine ⟨_, rfl, a, _, rfl, .inr qa, _, rfl, b, ys, rfl, .inl qb, rfl, _, rfl, ?_⟩
  rw [List.length_map, lp, ly, decide_eq_true rfl]
  dsimp only [tNext]
  -- whole
  refine ⟨_, rfl, a, rfl, ⟨_, qa⟩, fun D hD => ?_⟩
  refine lc_keep (n := (iv p).length) walk_tup hD (fun _ => false) (fun _ _ _ => True) (fun _ _ _ _ _ _ => trivial) (by rw [List.length_map]; omega) (fun _ s => Same.seqT s qa) ?_ ?_
  · rintro i x H1 H2 hi s1 hD1 ⟨rfl, ex⟩ N Fx gN gF
    obtain ⟨u, hu, rfl⟩ := iv_get ex
    refine ⟨rfl, _, rfl, u, rfl, _, rfl, ?_⟩
    exact gF rfl _ (Same.refl _)
  intro H1 zs s1 f1 f2 f3
  obtain rfl := keep_nil f2
  refine ⟨by show 0 ≤ sizeLine; decide, fun z0 hz0 => ?_⟩
  have sz := same_new (o := .lst []) hz0
  refine ⟨.list [], .list [], .lst (sqL (sz _ _ f1)) .nil, .lst (sqL upd_same) .nil, rfl, rfl, _, rfl, ?_⟩
  have s2 := s1.trans sz
  revert s2
  generalize upd H1 z0 (.lst []) = H2
  intro s2
  rw [nil_eq]
  refine ⟨_, rfl, _, rfl, ?_⟩
  refine ⟨_, _, A, m, n, p, rfl, .lst (s2.seq qb) (DpAll.up s2 _ db), R, h0, hm, hn, ⟨a, rfl, .inr (Same.seqT s2 qa)⟩, lp, hM, fun v3 H3 s3 d3 => ?_⟩
  obtain ⟨c, rfl, qc⟩ := get_ints (Dp.up (nw_le (eH_same _)) _ d3)
  refine ⟨c, rfl, ⟨_, qc⟩, fun D2 hD2 => ?_⟩
  have lu : (unitsOf A n p).length = n := by simp [unitsOf, turnM]
  refine lc_keep (n := (iv (unitsOf A n p)).length) walk_list hD2 (fun _ => false) (fun _ _ _ => True) (fun _ _ _ _ _ _ => trivial) (by rw [List.length_map, lu]; omega) (fun _ s => s.seq qc) ?_ ?_
  · rintro i x H4 H5 hi s4 hD4 ⟨rfl, ex⟩ N Fx gN gF
    obtain ⟨u, hu, rfl⟩ := iv_get ex
    have u0 := hz u (List.mem_of_getElem? hu)
    subst u0
    refine ⟨rfl, _, rfl, rfl, _, rfl, ?_⟩
    exact gF rfl _ (Same.refl _)
  intro H4 ws s4 g1 g2 g3
  obtain rfl := keep_nil g2
  refine ⟨by show 0 ≤ sizeLine; decide, fun z1 hz1 => ?_⟩
  have sz1 := same_new (o := .lst []) hz1
  refine ⟨.list [], .list [], .lst (sqL (sz1 _ _ g1)) .nil, .lst (sqL upd_same) .nil, rfl, rfl, ?_⟩
  rw [nil_eq]
  exact fin _ (s2.trans (s3.trans (s4.trans sz1)))
def spChg (K : PySem.W.Frag) : Sp := fun vs H Q _ => ∃ (v : V) (c : List Int), vs = [v, .int (c.length : Int)] ∧ Dp K H v (dTI c) ∧ c.length ≤ 100 ∧ ∀ H', Same H H' → Q (.bl true) H'
theorem ok_law_is_change {f : Addr} {fd : FuncData} (F : Df K "_law_is_change" "_law_is_change" s_law_is_change f fd) (T : Bn mg) (h_law_is_whole : Fn P w K mg base 41 "_law_is_whole" ["_law_value"] spIsW) :
    FnOk P w K mg base CX0 42 f fd ["_law_value", "_law_wide"] (spChg K) := by
  refine body_ok F sc_law_is_change (fun vs H Q E h => by obtain ⟨v, c, rfl, _⟩ := h; rfl) (fun cdv A outer s H vs Q E hr h => ?_)
  obtain ⟨v, c, rfl, dv, hc, fin⟩ := h
  obtain ⟨a, xs, rfl, qa, da⟩ := Dp.tupI dv
  have exs := DpAll.ints_inv da
  subst exs
  refine ⟨_, (pss_one (ps_ret (pe_and (pe_callB (isiK (K := K) rfl) (by rfl) T.isinstance (by decide +kernel) (pa_cons (pv 0) (pa_cons (pe_bltn (v := .ty "tuple") (by rfl) T.tuple (by decide +kernel) rfl) pa_nil))) (pe_and (pe_cmpR op_eq (pe_callB (lenS (K := K) rfl) (by rfl) T.len (by decide +kernel) (pa_cons (pv 0) pa_nil)) (pv 1) (nomark _)) (pe_one (pe_cmpR (eqD (K := K) rfl hr.units) (pe_lc (own := [("_law_one", 2)]) (by rfl) sc_law_is_change.nd (piT (K := K) rfl (pv 0)) (blkOk_by (N := ["_law_value", "_law_wide", "_law_one"]) (sc := defScope s_law_is_change) (own := [("_law_one", 2)]) (by decide +kernel)) (fun _ _ _ _ _ => (pg_name (i := 2) sc_law_is_change.nd rfl (Or.inl rfl) (Or.inr rfl))) (fun _ _ _ _ _ => (pts_one (pt_not (pt_val (pe_fn h_law_is_whole (hr.mono (by decide)) (by rfl) (pa_cons (pv 2) pa_nil)))))) (fun _ _ _ _ _ => (pv 2))) (pe_lst pa_nil) (nomark _))))))), ?_⟩
  refine ⟨_, rfl, _, _, _, _, true, rfl, .ty _, tyx_t qa, kit_ty (by decide), _, rfl, ?_⟩
  refine ⟨_, rfl, a, _, rfl, .inr qa, _, rfl, rfl, _, rfl, ?_⟩
  rw [List.length_map, decide_eq_true rfl]
  refine ⟨_, rfl, a, rfl, ⟨_, qa⟩, fun D hD => ?_⟩
  refine lc_keep (n := (iv c).length) walk_tup hD (fun _ => false) (fun _ _ _ => True) (fun _ _ _ _ _ _ => trivial) (by rw [List.length_map]; omega) (fun _ s => Same.seqT s qa) ?_ ?_
  · rintro i x H1 H2 hi s1 hD1 ⟨rfl, ex⟩ N Fx gN gF
    obtain ⟨u, hu, rfl⟩ := iv_get ex
    refine ⟨rfl, _, rfl, u, rfl, _, rfl, ?_⟩
    exact gF rfl _ (Same.refl _)
  intro H1 zs s1 f1 f2 f3
  obtain rfl := keep_nil f2
  refine ⟨by show 0 ≤ sizeLine; decide, fun z0 hz0 => ?_⟩
  have sz := same_new (o := .lst []) hz0
  refine ⟨.list [], .list [], .lst (sqL (sz _ _ f1)) .nil, .lst (sqL upd_same) .nil, rfl, rfl, ?_⟩
  rw [nil_eq]
  exact fin _ (s1.trans sz)
end
end K51W

set_option maxHeartbeats 4000000
/-! _law_rank. -/
namespace K51W
open PySem PySem.Spec PyProof.Rows L2 K51
theorem shaped_dI (r : List Int) : SeqAt.shaped (dI r) = true := by
  obtain ⟨h1, h2⟩ := lay_ints r
  simp only [SeqAt.shaped, PyData.canLay0, PyData.depth, h1, Bool.true_and]
  exact decide_eq_true (by omega)
theorem eqv_nilI (r : List Int) : PyData.eqv (dI r) (.list []) = r.isEmpty := by
  cases r with
  | nil => exact nil_eq
  | cons x r => rfl
theorem runB_len (M : Mat) : ∀ k, (runB M k).g.length = M.length
  | 0 => rfl
  | k + 1 => by rw [runB, stepB_len, runB_len M k]
theorem runB_stop {M : Mat} {k : Nat} (h : (runB M k).place = M.length) : ∀ d, runB M (k + d) = runB M k
  | 0 => rfl
  | d + 1 => by
    have ih := runB_stop h d
    show stepB (k + d) (runB M (k + d)) = _
    rw [ih]
    unfold stepB
    rw [if_pos (by rw [runB_len, h])]
theorem stepB_rect {k m w : Nat} {S : BSt} (h : Rect m w S.g) : Rect m w (stepB k S).g := by
  unfold stepB
  split
  · exact h
  · split
    · exact h
    · rename_i h1 j _ e
      have hj : j ∈ foundB S.g k S.place := by rw [e]; exact List.mem_cons_self ..
      unfold foundB at hj
      obtain ⟨i, hi, rfl⟩ := List.mem_map.mp (List.mem_filter.mp hj).1
      have := List.mem_range.mp hi
      have lm := h.1
      exact elimB_rect (h.swp2 (by omega) (by omega)) (by omega) _ (by omega)
theorem runB_rect {M : Mat} {m w : Nat} (h : Rect m w M) : ∀ k, Rect m w (runB M k).g
  | 0 => h
  | k + 1 => stepB_rect (runB_rect h k)
section
variable {P : Program} {w : World} {K : PySem.W.Frag} {mg : Str → Option Value} {base : Heap}
def spRank (K : PySem.W.Frag) : Sp := fun vs H Q _ => ∃ (v : V) (M : Mat) (m w : Nat), vs = [v] ∧ Dp K H v (dM M) ∧ Rect m w M ∧ 0 < m ∧ m ≤ 100 ∧ w ≤ 100 ∧ RkOk M w ∧ ∀ H', Same H H' → Q (.int ((runB M w).place : Int)) H'
theorem ok_law_rank {f : Addr} {fd : FuncData} (F : Df K "_law_rank" "_law_rank" s_law_rank f fd) (B : Big P base) (T : Bn mg) : FnOk P w K mg base CX0 41 f fd ["_law_rows"] (spRank K) := by
  refine body_ok F sc_law_rank (fun vs H Q E h => by obtain ⟨v, M, m, w, rfl, _⟩ := h; rfl) (fun cdv A outer s H vs Q E hr h => ?_)
  obtain ⟨v, M, m, n, rfl, dv, R, h0, hm, hn, hk, fin⟩ := h
  obtain ⟨a, xs, rfl, hS, hl, hrow⟩ := get_rows dv
  have lM : M.length = m := R.1
  refine ⟨_, (pss_cons (ps_asg (pe_tup (pa_cons (pe_lc (own := [("_law_row", 4)]) (by rfl) sc_law_rank.nd (piL (K := K) rfl (pv 0)) (blkOk_by (N := ["_law_rows", "_law_left", "_law_last", "_law_place", "_law_row", "_law_k", "_law_found", "_law_j", "_law_lead", "_law_by", "_law_one", "_law_two"]) (sc := defScope s_law_rank) (own := [("_law_row", 4)]) (by decide +kernel)) (fun _ _ _ _ _ => (pg_name (i := 4) sc_law_rank.nd rfl (Or.inl rfl) (Or.inr rfl))) (fun _ _ _ _ _ => pts_nil) (fun _ _ _ _ _ => (pe_callTy (listO (K := K) rfl) (by rfl) T.list (by decide +kernel) (pa_cons (pv 4) pa_nil)))) (pa_cons pe_int (pa_cons pe_int pa_nil)))) (tupG (K := K) (n := 3) rfl rfl (pgs_cons (pg_name (i := 1) sc_law_rank.nd rfl (Or.inr rfl) (Or.inl rfl)) (pgs_cons (pg_name (i := 2) sc_law_rank.nd rfl (Or.inr rfl) (Or.inl rfl)) (pgs_cons (pg_name (i := 3) sc_law_rank.nd rfl (Or.inl rfl) (Or.inr rfl)) pgs_nil))) rfl rfl))
      (pss_cons (ps_if (pt_cmpR (eqD (K := K) rfl hr.units) (pv 1) (pe_lst pa_nil) (nomark _)) (pss_one (ps_ret pe_int)) pss_nil)
      (pss_cons (ps_for PassesOwn.never rfl (pi_range1 (by rfl) T.range (pa_cons (pe_callB (lenS (K := K) rfl) (by rfl) T.len (by decide +kernel) (pa_cons (pe_ix (ixL (K := K) rfl) (pv 1) pe_int (fun _ _ => rfl)) pa_nil)) pa_nil)) (pg_name (i := 5) sc_law_rank.nd rfl (Or.inr rfl) (Or.inl rfl))
      (pss_cons (ps_setLc (i := 6) (own := [("_law_j", 7)]) (by rfl) sc_law_rank.nd rfl rfl (sw_true rfl rfl rfl (by decide +kernel)) (pi_range2 (by rfl) T.range (pa_cons (pv 3) (pa_cons (pe_callB (lenS (K := K) rfl) (by rfl) T.len (by decide +kernel) (pa_cons (pv 1) pa_nil)) pa_nil))) (blkOk_by (N := ["_law_rows", "_law_left", "_law_last", "_law_place", "_law_row", "_law_k", "_law_found", "_law_j", "_law_lead", "_law_by", "_law_one", "_law_two"]) (sc := defScope s_law_rank) (own := [("_law_j", 7)]) (by decide +kernel)) (fun _ _ _ _ _ => (pg_name (i := 7) sc_law_rank.nd rfl (Or.inl rfl) (Or.inr rfl))) (fun _ _ _ _ _ => (pts_one (pt_cmpR op_ne (pe_ix (ixL (K := K) rfl) (pe_ix (ixL (K := K) rfl) (pv 1) (pv 7) (fun _ _ => rfl)) (pv 5) (fun _ _ => rfl)) pe_int (nomark _)))) (fun _ _ _ _ _ => (pv 7)))
      (pss_cons (ps_if (pt_cmpR (eqD (K := K) rfl hr.units) (pv 6) (pe_lst pa_nil) (nomark _)) (pss_one ps_continue) pss_nil)
      (pss_cons (ps_asg (pe_tup (pa_cons (pe_ix (ixL (K := K) rfl) (pv 1) (pe_ix (ixL (K := K) rfl) (pv 6) pe_int (fun _ _ => rfl)) (fun _ _ => rfl)) (pa_cons (pe_ix (ixL (K := K) rfl) (pv 1) (pv 3) (fun _ _ => rfl)) pa_nil))) (tupG (K := K) (n := 2) rfl rfl (pgs_cons (pg_sub (pv 1) (pv 3) set_list) (pgs_cons (pg_sub (pv 1) (pe_ix (ixL (K := K) rfl) (pv 6) pe_int (fun _ _ => rfl)) set_list) pgs_nil)) rfl rfl))
      (pss_cons (ps_set (i := 8) sc_law_rank.nd rfl (Or.inr rfl) (pe_ix (ixL (K := K) rfl) (pv 1) (pv 3) (fun _ _ => rfl)))
      (pss_cons (ps_for PassesOwn.never rfl (pi_range2 (by rfl) T.range (pa_cons (pe_op op_add (pv 3) pe_int) (pa_cons (pe_callB (lenS (K := K) rfl) (by rfl) T.len (by decide +kernel) (pa_cons (pv 1) pa_nil)) pa_nil))) (pg_name (i := 7) sc_law_rank.nd rfl (Or.inl rfl) (Or.inr rfl))
      (pss_cons (ps_set (i := 9) sc_law_rank.nd rfl (Or.inr rfl) (pe_ix (ixL (K := K) rfl) (pe_ix (ixL (K := K) rfl) (pv 1) (pv 7) (fun _ _ => rfl)) (pv 5) (fun _ _ => rfl)))
      (pss_one (ps_asg (pe_lc (own := [("_law_one", 10), ("_law_two", 11)]) (by rfl) sc_law_rank.nd (piZ (K := K) rfl (by rfl) T.zip (pa_cons (pe_ix (ixL (K := K) rfl) (pv 1) (pv 7) (fun _ _ => rfl)) (pa_cons (pv 8) pa_nil)) rfl rfl) (blkOk_by (N := ["_law_rows", "_law_left", "_law_last", "_law_place", "_law_row", "_law_k", "_law_found", "_law_j", "_law_lead", "_law_by", "_law_one", "_law_two"]) (sc := defScope s_law_rank) (own := [("_law_one", 10), ("_law_two", 11)]) (by decide +kernel)) (fun _ _ _ _ _ => (tupG (K := K) (n := 2) rfl rfl (pgs_cons (pg_name (i := 10) sc_law_rank.nd rfl (Or.inl rfl) (Or.inr rfl)) (pgs_cons (pg_name (i := 11) sc_law_rank.nd rfl (Or.inl rfl) (Or.inr rfl)) pgs_nil)) rfl rfl)) (fun _ _ _ _ _ => pts_nil) (fun _ _ _ _ _ => (pe_op (op_fdivP B ⟨_, _, rfl, rfl, rfl, rfl, rfl⟩ (hr.mono (by decide))) (pe_op op_sub (pe_op op_mulP (pv 10) (pe_ix (ixL (K := K) rfl) (pv 8) (pv 5) (fun _ _ => rfl))) (pe_op op_mulP (pv 11) (pv 9))) (pv 2)))) (pg_sub (pv 1) (pv 7) set_list)))))
      (pss_cons (ps_asg (pe_tup (pa_cons (pe_ix (ixL (K := K) rfl) (pv 8) (pv 5) (fun _ _ => rfl)) (pa_cons (pe_op op_add (pv 3) pe_int) pa_nil))) (tupG (K := K) (n := 2) rfl rfl (pgs_cons (pg_name (i := 2) sc_law_rank.nd rfl (Or.inr rfl) (Or.inl rfl)) (pgs_cons (pg_name (i := 3) sc_law_rank.nd rfl (Or.inl rfl) (Or.inr rfl)) pgs_nil)) rfl rfl))
      (pss_one (ps_if (pt_cmpR op_eq (pv 3) (pe_callB (lenS (K := K) rfl) (by rfl) T.len (by decide +kernel) (pa_cons (pv 1) pa_nil)) (nomark _)) (pss_one ps_break) pss_nil)))))))))
      (pss_one (ps_ret (pv 3)))))), ?_⟩
  refine ⟨_, rfl, a, rfl, ⟨xs, hS⟩, fun D hD => ?_⟩
  refine lc_map (n := xs.length) walk_list hD (fun i v G => ∃ p, v = .ref p ∧ H p = none ∧ G p = some (.lst (iv (M.getD i [])))) (fun i v G G' s ⟨p, h1, h2, h3⟩ => ⟨p, h1, h2, s _ _ h3⟩) (by omega) (fun _ s2 => s2.seq hS) ?_ ?_
  · rintro i x H2 H3 hi s2 hD2 ⟨rfl, ex⟩ N go
    obtain ⟨p, gp, qp⟩ := hrow i _ (getD_at (by omega))
    cases ex.symm.trans gp
    refine ⟨rfl, _, rfl, p, _, rfl, .inl (s2.seq qp), fun Z hZ => go _ _ (same_new hZ) ⟨Z, rfl, s2.free hZ, ?_⟩⟩
    rw [wo_at (ne_new hD2 hZ), upd_same]
  intro H1 ys s1 e1 e2 e3
  have hW : WkAt K H1 D M := ⟨ys, e1, by rw [e2, hl], fun i r hr => by
    have hi : i < m := by have := (List.getElem?_eq_some_iff.mp hr).1; omega
    obtain ⟨p, h1, h2, h3⟩ := e3 i ys[i] (List.getElem?_eq_getElem (by omega))
    have np : p ≠ D := fun z => by rw [z, wo_none] at h3; cases h3
    rw [wo_at np] at h3
    rw [getD_at (by omega)] at hr
    cases hr
    exact ⟨p, by rw [List.getElem?_eq_getElem (by omega), h1], np, sqL h3⟩⟩
  refine ⟨by show 3 ≤ sizeLine; decide, fun T0 hT0 => ?_⟩
  have sT := same_new (o := .tup [.ref D, .int 1, .int 0]) hT0
  refine ⟨T0, [.ref D, .int 1, .int 0], rfl, sqT upd_same, rfl, _, _, rfl, _, _, rfl, _, _, rfl, rfl, ?_⟩
  have hW2 := hW.same sT
  have s2 := s1.trans sT
  revert hW2 s2
  generalize upd H1 T0 (.tup [.ref D, .int 1, .int 0]) = H2
  intro hW2 s2
  refine ⟨_, rfl, by show 0 ≤ sizeLine; decide, fun z0 hz0 => ?_⟩
  have sz := same_new (o := .lst []) hz0
  have hW3 := hW2.same sz
  have dM3 : Dp K (upd H2 z0 (.lst [])) (.ref D) (dM M) := by
    obtain ⟨xs', x1, x2, x3⟩ := hW3
    refine .lst (sqL x1) (DpAll.of (by rw [x2, List.length_map]) fun j v d hv hd => ?_)
    rw [List.getElem?_map] at hd
    obtain ⟨r, hr, rfl⟩ := Option.map_eq_some_iff.mp hd
    obtain ⟨p, g1, _, g2⟩ := x3 j r hr
    cases g1.symm.trans hv
    exact .lst g2 (DpAll.ints _)
  refine ⟨dM M, .list [], dM3, .lst (sqL upd_same) .nil, shaped_dM _, rfl, _, rfl, ?_⟩
  rw [eqv_nilL, show M.isEmpty = false by cases M with
    | nil => simp at lM; omega
    | cons _ _ => rfl]
  have s3 := s2.trans sz
  revert hW3 s3
  clear dM3 sz
  generalize upd H2 z0 (.lst []) = H3
  intro hW3 s3
  dsimp only [tNext]
  obtain ⟨xs3, p3, hx3, hl3, g3, n3, q3⟩ := hW3.row (i := 0) (by omega)
  have lr0 : (M.getD 0 []).length = n := R.row h0
  refine ⟨_, rfl, D, xs3, 0, _, rfl, rfl, sqL hx3, atI_nat (j := 0) g3, p3, _, rfl, .inl q3, n, congrArg (fun z : Nat => [V.int (z : Int)]) (by rw [List.length_map, lr0] : (iv (M.getD 0 [])).length = n), by omega, by omega, ?_⟩
  have fD : H D = none := hD
  refine for_it walk_range (fun i σ H' => ∃ y5 y6 y7 y8 y9, σ = [some (.ref a), some (.ref D), some (.int (runB M i).last), some (.int ((runB M i).place : Int)), none, y5, y6, y7, y8, y9, none, none] ∧ Same H H' ∧ WkAt K H' D (runB M i).g ∧ (runB M i).place < m)
    ⟨none, none, none, none, none, rfl, s3, hW3, h0⟩ (fun _ _ _ _ _ => trivial) ?_ ?_
  · rintro i xv σ H4 H5 hi ⟨y5, y6, y7, y8, y9, rfl, s5, hW5, hpl⟩ ⟨rfl, rfl⟩
    have hin : i < n := by omega
    obtain ⟨kl, kb⟩ := hk i hin
    have RS := runB_rect R i
    have eSt : runB M (i + 1) = stepB i (runB M i) := rfl
    have lg := runB_len M i
    have ek : (0 : Int) + (i : Int) = (i : Int) := by omega
    have stop := fun (h : (runB M (i + 1)).place = M.length) => show (runB M n).place = (runB M (i + 1)).place by
      have := runB_stop h (n - (i + 1))
      rw [show i + 1 + (n - (i + 1)) = n by omega] at this
      rw [this]
    revert kl kb RS hW5 hpl eSt lg
    generalize hS' : runB M i = S
    obtain ⟨g, la, z⟩ := S
    intro hpl hW5 kl kb RS eSt lg
    dsimp only at hW5 hpl kl kb RS lg ⊢
    rw [lM] at lg
    -- found
    obtain ⟨xs5, p5, hx5, hl5, g5, n5, q5⟩ := hW5.row (i := z) (by omega)
    refine ⟨_, rfl, _, rfl, D, xs5, rfl, .inl (sqL hx5), _, _, rfl, by omega, fun Fd hFd => ?_⟩
    have el : ((xs5.length : Int) - (z : Int)).toNat = m - z := by omega
    rw [el]
    refine lc_keep (n := m - z) walk_range hFd (fun j => decide (ent g (z + j) i ≠ 0)) (fun j v _ => v = .int ((z + j : Nat) : Int)) (fun _ _ _ _ _ e => e) (by omega) (fun _ _ => trivial) ?_ ?_
    · rintro j x H6 H7 hj s6 hD6 ⟨rfl, rfl⟩ N Fx gN gF
      have ej : (z : Int) + (j : Int) = ((z + j : Nat) : Int) := by omega
      obtain ⟨xs6, p6, hx6, hl6, g6, n6, q6⟩ := (hW5.same s6).row (i := z + j) (by omega)
      refine ⟨rfl, _, rfl, _, rfl, D, xs6, _, _, rfl, rfl, sqL hx6, at_of ej g6, _, rfl, p6, _, _, _, rfl, rfl, q6, at_of ek (iv_at RS (by omega) hin), rfl, _, rfl, ?_⟩
      by_cases e0 : ent g (z + j) i = 0
      · rw [decide_eq_true (congrArg V.int e0)]
        exact gF (by simp [e0]) _ (Same.refl _)
      · rw [decide_eq_false (fun h => e0 (V.int.inj h))]
        exact ⟨_, rfl, gN (by simp [e0]) _ _ (Same.refl _) (congrArg V.int ej)⟩
    intro H6 fs s6 f1 f2 f3
    have efs : fs = iv ((foundB g i z).map fun j : Nat => (j : Int)) := ext_of (by rw [f2, List.length_map, List.length_map]; unfold foundB; rw [lg, List.filter_map, List.length_map]; rfl) fun t y w hy hw => by
      obtain ⟨j, h1, rfl⟩ := f3 t y hy
      unfold foundB at hw
      rw [lg, List.filter_map, List.getElem?_map, List.getElem?_map, List.getElem?_map] at hw
      rw [show ((List.range (m - z)).filter ((fun j => decide (ent g j i ≠ 0)) ∘ fun i => z + i))[t]? = some j from h1] at hw
      exact Option.some.inj hw
    subst efs
    have hW6 := hW5.same s6
    have s06 := s5.trans s6
    refine ⟨_, rfl, by show 0 ≤ sizeLine; decide, fun z1 hz1 => ?_⟩
    have sz1 := same_new (o := .lst []) hz1
    refine ⟨dI _, .list [], .lst (sqL (sz1 _ _ f1)) (DpAll.ints _), .lst (sqL upd_same) .nil, shaped_dI _, rfl, _, rfl, ?_⟩
    rw [eqv_nilI]
    have hW7 := hW6.same sz1
    have s07 := s06.trans sz1
    have hFd7 := sz1 _ _ f1
    revert hW7 s07 hFd7
    generalize upd H6 z1 (.lst []) = H7
    intro hW7 s07 hFd7
    clear hW6 f1 f2 f3 sz1 hW5
    have memf : ∀ j, j ∈ foundB g i z → z ≤ j ∧ j < m ∧ ent g j i ≠ 0 := fun j hj => by
      unfold foundB at hj
      obtain ⟨h1, h2⟩ := List.mem_filter.mp hj
      obtain ⟨t, ht, rfl⟩ := List.mem_map.mp h1
      have := List.mem_range.mp ht
      exact ⟨by omega, by omega, of_decide_eq_true h2⟩
    have est : stepB i ⟨g, la, z⟩ = match foundB g i z with
      | [] => ⟨g, la, z⟩
      | j :: _ => ⟨elimB la i z (swp2 g z j) (g.length - z - 1), ent (swp2 g z j) z i, z + 1⟩ := by
      show (if z = g.length then _ else _) = _
      rw [if_neg (by omega)] <;> rfl
    rw [est] at eSt
    revert eSt memf hFd7
    generalize foundB g i z = fl
    intro eSt hFd7 memf
    cases fl with
    | nil =>
      dsimp only at eSt
      exact ⟨_, _, y7, y8, y9, by rw [eSt]; rfl, s07, by rw [eSt]; exact hW7, by rw [eSt]; exact hpl⟩
    | cons b fl =>
      dsimp only at eSt
      obtain ⟨b1, b2, b3⟩ := memf b (List.mem_cons_self ..)
      clear est memf
      have nFD : Fd ≠ D := (ne_of_none hx5 hFd).symm
      obtain ⟨xs, hx, hl7, hrow⟩ := id hW7
      obtain ⟨pb, gb, nb, qb⟩ := hrow b _ (getD_at (by omega))
      obtain ⟨pz, gz, nz, qz⟩ := hrow z _ (getD_at (by omega))
      have hS7 : SqL K H7 D xs := sqL hx
      refine iteF ?_
      dsimp only [tNext]
      -- the swap
      refine ⟨_, rfl, _, rfl, Fd, _, _, _, rfl, rfl, sqL hFd7, atI_nat (j := 0) rfl, D, xs, _, _, rfl, rfl, hS7, at_of rfl gb, _, rfl, _, rfl, D, xs, _, _, rfl, rfl, hS7, at_of rfl gz, by show 2 ≤ sizeLine; decide, fun T1 hT1 => ?_⟩
      have sT1 := same_new (o := .tup [.ref pb, .ref pz]) hT1
      refine ⟨T1, [.ref pb, .ref pz], rfl, sqT upd_same, rfl, _, _, rfl, _, rfl, _, rfl, D, xs, _, z, rfl, rfl, sT1 _ _ hx, ?_, ?_⟩
      · rw [hl7, lg]; exact ix_lt (by omega)
      refine ⟨_, _, rfl, _, rfl, _, rfl, Fd, _, _, _, rfl, rfl, sqL (by rw [upd_ne nFD]; exact sT1 _ _ hFd7), atI_nat (j := 0) rfl, D, _, _, b, rfl, rfl, upd_same, by rw [List.length_set, hl7, lg]; exact ix_lt b2, rfl, ?_⟩
      have hW8 := (hW7.same sT1).set (k := z) (sT1 _ _ hx) (by omega) nb (sT1.seq qb)
      have hW9 := hW8.set (k := b) upd_same (by rw [List.length_set]; omega) nz (seq_upd (sT1.seq qz) nz)
      have s09 := same_mut (o := .lst ((xs.set z (.ref pb)).set b (.ref pz))) (same_mut (o := .lst (xs.set z (.ref pb))) (s07.trans sT1) fD) fD
      revert hW9 s09
      generalize upd (upd (upd H7 T1 (.tup [.ref pb, .ref pz])) D (.lst (xs.set z (.ref pb)))) D (.lst ((xs.set z (.ref pb)).set b (.ref pz))) = H9
      intro hW9 s09
      rw [show (g.set z (g.getD b [])).set b (g.getD z []) = swp2 g z b from rfl] at hW9
      have R9 : Rect m n (swp2 g z b) := RS.swp2 hpl b2
      have hp : ent (swp2 g z b) z i ≠ 0 := by
        rw [ent_swp2 RS hpl b2]
        unfold swp
        rw [if_pos rfl]
        exact b3
      have kb9 : ∀ i j, (ent (swp2 g z b) i j).natAbs < 2 ^ 1000 := fun i j => by
        rw [ent_swp2 RS hpl b2]
        exact kb _ _
      rw [lg] at eSt
      clear hW8 hrow hS7 gb gz nb nz qb qz hx hl7 hFd7 hW7
      revert hW9 R9 hp kb9 eSt
      generalize swp2 g z b = g2
      intro eSt hW9 R9 hp kb9
      -- lead
      obtain ⟨xs2, pl, hx2, hl2, gl, nl, ql⟩ := hW9.row (i := z) (by rw [R9.1]; exact hpl)
      refine ⟨_, rfl, _, rfl, D, xs2, _, _, rfl, rfl, sqL hx2, at_of rfl gl, ?_⟩
      have lz2 : (g2.getD z []).length = n := R9.row hpl
      have mul2 : ∀ a b c d, Mul (ent g2 a b) (ent g2 c d) := fun a b c d => .inr (.inr ⟨1000, 1000, kb9 _ _, kb9 _ _, by decide⟩)
      refine ⟨_, rfl, _, _, rfl, rfl, _, rfl, D, xs2, rfl, .inl (sqL hx2), _, _, rfl, by rw [hl2, R9.1]; omega, ?_⟩
      refine for_it walk_range (fun t σ H' => ∃ y7 y9, σ = [some (.ref a), some (.ref D), some (.int la), some (.int (z : Int)), none, some (.int (0 + (i : Int))), some (.ref Fd), y7, some (.ref pl), y9, none, none] ∧ Same H H' ∧ WkAt K H' D (elimB la i z g2 t) ∧ SqL K H' pl (iv (g2.getD z [])))
        ⟨y7, y9, rfl, s09, hW9, ql⟩ (fun _ _ _ _ _ => trivial) ?_ ?_
      · rintro t x σ H10 H11 ht ⟨y7, y9, rfl, s10, hW10, ql10⟩ ⟨rfl, rfl⟩
        have htm : z + 1 + t < m := by rw [hl2, R9.1] at ht; omega
        have et : (z : Int) + 1 + (t : Int) = ((z + 1 + t : Nat) : Int) := by omega
        have RE : Rect m n (elimB la i z g2 t) := elimB_rect R9 hpl t (by omega)
        obtain ⟨_, er⟩ := elimB_row (last := la) (k := i) (z := z) (M := g2) t (z + 1 + t) (by rw [R9.1]; omega)
        obtain ⟨_, ez⟩ := elimB_row (last := la) (k := i) (z := z) (M := g2) t z (by rw [R9.1]; omega)
        rw [if_neg (by omega)] at er
        rw [if_neg (by omega)] at ez
        have eE : elimB la i z g2 (t + 1) = (elimB la i z g2 t).set (z + 1 + t) (rowB la i (g2.getD z []) (g2.getD (z + 1 + t) [])) := by
          rw [elimB, er, ez]
        obtain ⟨xs10, p, hx10, hl10, g10, n10, q10⟩ := hW10.row (i := z + 1 + t) (by rw [RE.1]; exact htm)
        rw [er] at q10
        have lr : (g2.getD (z + 1 + t) []).length = n := R9.row htm
        have hS10 := sqL (K := K) hx10
        refine ⟨_, rfl, _, rfl, D, xs10, _, _, rfl, rfl, hS10, at_of et g10, _, rfl, p, _, _, _, rfl, rfl, q10, at_of ek (iv_getD lr hin), ?_⟩
        refine ⟨_, rfl, _, rfl, D, xs10, _, _, rfl, rfl, hS10, at_of et g10, _, rfl, p, pl, _, _, rfl, q10, ql10, fun Z hZ => ?_⟩
        refine lc_map (walk_zip (n := n) (by rw [List.length_map, List.length_map, lr, lz2]; omega)) hZ (fun c v _ => c < n ∧ v = .int ((ent g2 (z + 1 + t) c * ent g2 z i - ent g2 z c * ent g2 (z + 1 + t) i).fdiv la)) (fun _ _ _ _ _ e => e) (by omega) (fun _ s => ⟨s.seq q10, s.seq ql10⟩) ?_ ?_
        · rintro c x H12 H13 hc s12 hZ12 ⟨T', x1, y1, rfl, nT, rfl, e1, e2⟩ N go
          have f1 := e1.symm.trans (iv_at R9 htm hc)
          have f2 := e2.symm.trans (iv_at R9 hpl hc)
          cases f1
          cases f2
          have sT : Same H12 (upd H12 T' (.tup [.int (ent g2 (z + 1 + t) c), .int (ent g2 z c)])) := same_new nT
          refine ⟨T', [.int (ent g2 (z + 1 + t) c), .int (ent g2 z c)], rfl, sqT upd_same, rfl, _, _, rfl, _, _, rfl, rfl, rfl, ?_⟩
          exact ⟨_, rfl, _, rfl, _, rfl, pl, _, _, _, rfl, rfl, (s12.trans sT).seq ql10, at_of ek (iv_at R9 hpl hin), _, _, rfl, rfl, mul2 _ _ _ _, _, rfl, _, rfl, _, _, rfl, rfl, mul2 _ _ _ _, _, _, rfl, rfl, _, rfl, _, _, rfl, rfl, kl, go _ _ sT ⟨hc, rfl⟩⟩
        · intro H12 ws s12 f1 f2 f3
          have ew : ws = iv (rowB la i (g2.getD z []) (g2.getD (z + 1 + t) [])) := ext_of (by rw [f2, List.length_map, rowB_len lz2 lr]) fun c v w hv hw => by
            obtain ⟨hc, rfl⟩ := f3 c v hv
            unfold rowB at hw
            rw [List.getElem?_map, List.getElem?_zipWith, List.getElem?_eq_getElem (by omega), List.getElem?_eq_getElem (by omega)] at hw
            have key : ∀ (r : List Int) (hr : c < r.length), r[c] = r.getD c 0 := fun r hr => by simp [List.getD_eq_getElem?_getD, hr]
            rw [key _ (by omega), key _ (by omega)] at hw
            exact Option.some.inj hw
          subst ew
          have nZ : Z ≠ D := ne_new (by rw [hx10]; exact fun z => nomatch z) hZ
          refine ⟨_, rfl, _, rfl, D, xs10, _, z + 1 + t, rfl, rfl, s12 _ _ hx10, by rw [hl10, RE.1, et]; exact ix_lt htm, ?_⟩
          have hW12 := (hW10.same s12).set (k := z + 1 + t) (s12 _ _ hx10) (by rw [RE.1]; exact htm) nZ (sqL f1)
          refine ⟨_, _, rfl, same_mut (s10.trans s12) fD, by rw [eE]; exact hW12, seq_upd (s12.seq ql10) nl⟩
      · rintro σ H10 ⟨y7, y9, rfl, s10, hW10, ql10⟩
        have en : ((xs2.length : Int) - ((z : Int) + 1)).toNat = m - z - 1 := by rw [hl2, R9.1]; omega
        rw [en] at hW10
        -- last, place
        refine ⟨_, rfl, _, rfl, pl, _, _, _, rfl, rfl, ql10, at_of ek (iv_getD lz2 hin), _, rfl, _, _, rfl, rfl, by show 2 ≤ sizeLine; decide, fun T2 hT2 => ?_⟩
        have sT2 := same_new (o := .tup [.int ((g2.getD z []).getD i 0), .int ((z : Int) + 1)]) hT2
        refine ⟨T2, _, rfl, sqT upd_same, rfl, _, _, rfl, _, _, rfl, rfl, ?_⟩
        have hW11 := hW10.same sT2
        have s11 := s10.trans sT2
        revert hW11 s11
        generalize upd H10 T2 (.tup [.int ((g2.getD z []).getD i 0), .int ((z : Int) + 1)]) = H11
        intro hW11 s11
        have RE : Rect m n (elimB la i z g2 (m - z - 1)) := elimB_rect R9 hpl _ (by omega)
        obtain ⟨xs11, p11, hx11, hl11, g11, n11, q11⟩ := hW11.row (i := z) (by rw [RE.1]; exact hpl)
        refine ⟨_, rfl, _, rfl, D, xs11, rfl, .inl (sqL hx11), rfl, _, rfl, ?_⟩
        rw [hl11, RE.1]
        by_cases el2 : z + 1 = m
        · rw [decide_eq_true (congrArg V.int (show (z : Int) + 1 = (m : Int) by omega))]
          refine ⟨_, rfl, ?_⟩
          have := fin _ s11
          rw [stop (by rw [eSt, lM]; exact el2), eSt] at this
          exact this
        · rw [decide_eq_false (fun h => el2 (by have := V.int.inj h; omega))]
          exact ⟨_, _, _, _, _, by rw [eSt]; rfl, s11, by rw [eSt]; exact hW11, by rw [eSt]; show z + 1 < m; omega⟩
  · rintro σ H4 ⟨y5, y6, y7, y8, y9, rfl, s5, hW5, hpl⟩
    exact ⟨_, rfl, fin _ s5⟩
end
end K51W

set_option maxHeartbeats 4000000
/-! _law_in_span, _law_letter_right. -/
namespace K51W
open PySem PySem.Spec PyProof.Rows L2 K51
section
variable {P : Program} {w : World} {K : PySem.W.Frag} {mg : Str → Option Value} {base : Heap} {CH : Addr}
theorem get_rowsT {H : Hp} {v : V} {M : Mat} (h : Dp K H v (dLT M)) : ∃ a xs, v = .ref a ∧ SqL K H a xs ∧ xs.length = M.length ∧ ∀ i, i < M.length → ∃ p, xs[i]? = some (.ref p) ∧ SqT K H p (iv (M.getD i [])) := by
  obtain ⟨a, xs, rfl, hS, dx⟩ := Dp.lstI h
  refine ⟨a, xs, rfl, hS, by rw [DpAll.len dx, List.length_map], fun i hi => ?_⟩
  obtain ⟨v, h1, h2⟩ := DpAll.get (i := i) (d := dTI (M.getD i [])) dx (by rw [List.getElem?_map, getD_at hi]; rfl)
  obtain ⟨p, zs, rfl, h3, h4⟩ := Dp.tupI h2
  rw [DpAll.ints_inv h4] at h3
  exact ⟨p, h1, h3⟩
theorem get_tup {H : Hp} {v : V} {r : List Int} (h : Dp K H v (dTI r)) : ∃ p, v = .ref p ∧ SqT K H p (iv r) := by
  obtain ⟨p, zs, rfl, h3, h4⟩ := Dp.tupI h
  rw [DpAll.ints_inv h4] at h3
  exact ⟨p, rfl, h3⟩
def spSpan (K : PySem.W.Frag) : Sp := fun vs H Q _ => ∃ (v : V) (q : Addr) (A : Mat) (b : List Int) (m w : Nat), vs = [v, .ref q] ∧ Dp K H v (dLT A) ∧ SqL K H q (iv b) ∧ Rect m w A ∧ b.length = w ∧ 0 < m ∧ m ≤ 50 ∧ w ≤ 50 ∧ RkOk A w ∧ RkOk (A ++ [b]) w ∧
  ∀ H', Same H H' → Q (.bl (decide ((runB A w).place = (runB (A ++ [b]) w).place))) H'
theorem ok_law_in_span {f : Addr} {fd : FuncData} (F : Df K "_law_in_span" "_law_in_span" s_law_in_span f fd) (T : Bn mg) (h_law_rank : Fn P w K mg base 41 "_law_rank" ["_law_rows"] (spRank K)) :
    FnOk P w K mg base CX0 42 f fd ["_law_exponents_here", "_law_row"] (spSpan K) := by
  refine body_ok F sc_law_in_span (fun vs H Q E h => by obtain ⟨v, q, A, b, m, w, rfl, _⟩ := h; rfl) (fun cdv A outer s H vs Q E hr h => ?_)
  obtain ⟨v, q, A, b, m, n, rfl, dv, hq, R, lb, h0, hm, hn, r1, r2, fin⟩ := h
  obtain ⟨a, xs, rfl, hS, hl, hrow⟩ := get_rowsT dv
  have lA : A.length = m := R.1
  refine ⟨_, (pss_cons (ps_setLc (i := 2) (own := [("_law_one", 3)]) (by rfl) sc_law_in_span.nd rfl rfl (sw_true rfl rfl rfl (by decide +kernel)) (piL (K := K) rfl (pv 0)) (blkOk_by (N := ["_law_exponents_here", "_law_row", "_law_rows", "_law_one"]) (sc := defScope s_law_in_span) (own := [("_law_one", 3)]) (by decide +kernel)) (fun _ _ _ _ _ => (pg_name (i := 3) sc_law_in_span.nd rfl (Or.inl rfl) (Or.inr rfl))) (fun _ _ _ _ _ => pts_nil) (fun _ _ _ _ _ => (pe_callTy (listO (K := K) rfl) (by rfl) T.list (by decide +kernel) (pa_cons (pv 3) pa_nil))))
      (pss_one (ps_ret (pe_cmpR op_eq (pe_fn h_law_rank (hr.mono (by decide)) (by rfl) (pa_cons (pv 2) pa_nil)) (pe_fn h_law_rank (hr.mono (by decide)) (by rfl) (pa_cons (pe_op op_cat (pv 2) (pe_lst (pa_cons (pe_callTy (listO (K := K) rfl) (by rfl) T.list (by decide +kernel) (pa_cons (pv 1) pa_nil)) pa_nil))) pa_nil)) (nomark _))))), ?_⟩
  refine ⟨_, rfl, a, rfl, ⟨xs, hS⟩, fun D hD => ?_⟩
  refine lc_map (n := xs.length) walk_list hD (fun i v G => i < m ∧ Dp K (nw eH H G) v (dI (A.getD i []))) (fun i v G G' s d => ⟨d.1, Dp.up (nw_mono s) _ d.2⟩) (by omega) (fun _ s2 => s2.seq hS) ?_ ?_
  · rintro i x H2 H3 hi s2 hD2 ⟨rfl, ex⟩ N go
    have him : i < m := by omega
    obtain ⟨p, gp, qp⟩ := hrow i (by omega)
    cases ex.symm.trans gp
    refine ⟨rfl, _, rfl, p, _, rfl, .inr (Same.seqT s2 qp), fun Z hZ => go _ _ (same_new hZ) ⟨him, mk_ints (s2.free hZ) ?_⟩⟩
    rw [wo_at (ne_new hD2 hZ), upd_same]
  intro H1 ys s1 e1 e2 e3
  have all1 : DpAll K H1 ys (A.map dI) := DpAll.of (by rw [e2, List.length_map, hl]) fun j v d hv hd => by
    obtain ⟨hj, d2⟩ := e3 j v hv
    rw [List.getElem?_map, getD_at (by omega)] at hd
    cases hd
    exact Dp.up (nw_le (eH_same _)) _ (Dp.up (nw_mono wo_le) _ d2)
  refine ⟨_, rfl, ?_⟩
  refine ⟨_, A, m, n, rfl, .lst (sqL e1) all1, R, h0, by omega, by omega, r1, fun H2 s2 => ?_⟩
  refine ⟨_, rfl, _, rfl, q, _, rfl, .inl ((s1.trans s2).seq hq), fun Z hZ => ?_⟩
  have sZ := same_new (o := .lst (iv b)) hZ
  refine ⟨by show 1 ≤ sizeLine; decide, fun W hW => ?_⟩
  have sW := same_new (o := .lst [.ref Z]) hW
  have l1 : ys.length = m := by rw [e2, hl, lA]
  refine ⟨D, W, ys, [.ref Z], rfl, rfl, sW _ _ (sZ _ _ (s2 _ _ e1)), upd_same, Nat.le_trans (by rw [l1]; show m + 1 ≤ 1000; omega) (by decide), fun U hU => ?_⟩
  have sU := same_new (o := .lst (ys ++ [.ref Z])) hU
  have s4 := s2.trans (sZ.trans (sW.trans sU))
  have zz : SqL K (upd (upd (upd H2 Z (.lst (iv b))) W (.lst [.ref Z])) U (.lst (ys ++ [.ref Z]))) Z (iv b) := (sW.trans sU).seq (sqL upd_same)
  refine ⟨_, A ++ [b], m + 1, n, rfl, .lst (sqL upd_same) ?_, ⟨by rw [List.length_append, lA]; rfl, fun r hr => ?_⟩, by omega, by omega, by omega, r2, fun H5 s5 => ?_⟩
  · rw [List.map_append]
    exact DpAll.snoc (.lst zz (DpAll.ints _)) (DpAll.up s4 _ all1)
  · rcases List.mem_append.mp hr with hr | hr
    · exact R.2 r hr
    · rw [List.mem_singleton.mp hr]; exact lb
  · refine ⟨rfl, ?_⟩
    have := fin H5 (s1.trans (s4.trans s5))
    rw [show decide (V.int ((runB A n).place : Int) = V.int ((runB (A ++ [b]) n).place : Int)) = decide ((runB A n).place = (runB (A ++ [b]) n).place) by
      by_cases e : (runB A n).place = (runB (A ++ [b]) n).place
      · rw [e, decide_eq_true rfl, decide_eq_true rfl]
      · rw [decide_eq_false e, decide_eq_false fun z => e (by have := V.int.inj z; omega)]]
    exact this
def spLet (K : PySem.W.Frag) (CH : Addr) : Sp := fun vs H Q _ => ∃ (v : V) (q x dx : Addr) (a1 a2 a3 a4 : V) (A : Mat) (b : List Int) (ls : List Ltr) (m w j : Nat) (l : Ltr), vs = [v, .ref q, .ref x, .int (j : Int)] ∧ Dp K H v (dLT A) ∧ SqL K H q (iv b) ∧ H x = some (.ins CH dx (hflds a1 a2 a3 a4)) ∧
  Dp K H a1 (.tuple (ls.map dKind)) ∧ Dp K H a2 (.tuple (ls.map dPow)) ∧ Dp K H a3 (.tuple (ls.map dGrp)) ∧ Dp K H a4 (.tuple (ls.map dChg)) ∧ Rect m w A ∧ b.length = w ∧ j < m ∧ m ≤ 50 ∧ w ≤ 50 ∧ ls[j]? = some l ∧ LetOk A b m w j l ∧
  (∀ i j, (ent A i j).natAbs < 2 ^ 64) ∧ (∀ x ∈ b, x.natAbs < 2 ^ 64) ∧ ∀ H', Same H H' → Q (.bl true) H'
theorem dec_iff {x : Int} {k j : Nat} (h : x ≠ 0 ↔ k = j) : (!decide (V.bl (!decide (V.int x = V.int 0)) = V.bl (decide (V.int (0 + (k : Int)) = V.int (j : Int))))) = false := by
  have e1 : (!decide (V.int x = V.int 0)) = decide (V.int (0 + (k : Int)) = V.int (j : Int)) := by
    by_cases e : k = j
    · have hx := h.mpr e
      rw [decide_eq_false (fun z => hx (V.int.inj z)), decide_eq_true (by rw [e, Int.zero_add])]
      rfl
    · have hx : x = 0 := by
        by_cases z : x = 0
        · exact z
        · exact absurd (h.mp z) e
      rw [decide_eq_true (congrArg V.int hx), decide_eq_false (fun z => e (by have := V.int.inj z; omega))]
      rfl
  rw [e1, decide_eq_true rfl]
  rfl
theorem eqv_dR (r : Rat) : PyData.eqv (dR r) (dR r) = true := by
  show ((PyData.eqv (.int r.num) (.int r.num)) && ((PyData.eqv (.int (r.den : Int)) (.int (r.den : Int))) && PyData.eqvAll [] [])) = true
  simp [PyData.eqv, PyData.eqvAll]
theorem ok_law_letter_right {f : Addr} {fd : FuncData} (F : Df K "_law_letter_right" "_law_letter_right" s_law_letter_right f fd) (T : Bn mg) (c : HCl K CH) (h_law_is_group : Fn P w K mg base 43 "_law_is_group" ["_law_value", "_law_exponents_here"] (spGrp K))
    (h_law_is_change : Fn P w K mg base 42 "_law_is_change" ["_law_value", "_law_wide"] (spChg K)) (h_law_is_ratio : Fn P w K mg base 42 "_law_is_ratio" ["_law_value"] (spIsR K)) (h_law_inner : Fn P w K mg base 41 "_law_inner" ["_law_row", "_law_column"] (spInn K)) (h_law_q : Fn P w K mg base 42 "_law_q" ["_law_top", "_law_bottom"] spQ) :
    FnOk P w K mg base CX0 44 f fd ["_law_exponents_here", "_law_result", "_law_told", "_law_j"] (spLet K CH) := by
  refine body_ok F sc_law_letter_right (fun vs H Q E h => by obtain ⟨v, q, x, dx, a1, a2, a3, a4, A, b, ls, m, w, j, l, rfl, _⟩ := h; rfl) (fun cdv A outer s H vs Q E hr h => ?_)
  obtain ⟨v, q, x, dx, a1, a2, a3, a4, A, b, ls, m, n, j, l, rfl, dv, hq, hx, d1, d2, d3, d4, R, lb, hj, hm, hn, hl, ok, bA, bb, fin⟩ := h
  obtain ⟨a, xs, rfl, hS, lxs, hrow⟩ := get_rowsT dv
  have lA : A.length = m := R.1
  refine ⟨_, (pss_cons (ps_asg (pe_tup (pa_cons (pe_ix (ixT (K := K) rfl) (fldK (K := K) rfl (pv 2) rfl) (pv 3) (fun _ _ => rfl)) (pa_cons (pe_ix (ixT (K := K) rfl) (fldK (K := K) rfl (pv 2) rfl) (pv 3) (fun _ _ => rfl)) (pa_cons (pe_ix (ixT (K := K) rfl) (fldK (K := K) rfl (pv 2) rfl) (pv 3) (fun _ _ => rfl)) (pa_cons (pe_ix (ixT (K := K) rfl) (fldK (K := K) rfl (pv 2) rfl) (pv 3) (fun _ _ => rfl)) pa_nil))))) (tupG (K := K) (n := 4) rfl rfl (pgs_cons (pg_name (i := 4) sc_law_letter_right.nd rfl (Or.inl rfl) (Or.inr rfl)) (pgs_cons (pg_name (i := 5) sc_law_letter_right.nd rfl (Or.inl rfl) (Or.inr rfl)) (pgs_cons (pg_name (i := 6) sc_law_letter_right.nd rfl (Or.inl rfl) (Or.inr rfl)) (pgs_cons (pg_name (i := 7) sc_law_letter_right.nd rfl (Or.inl rfl) (Or.inr rfl)) pgs_nil)))) rfl rfl))
      (pss_cons (ps_if (pt_cmpR op_eq (pv 4) pe_str (nomark _)) (pss_cons (ps_if (PW.pt (pw_or (pt_cmp (pc_notN (pv 5))) (pw_or1 (pt_cmp (pc_notN (pv 7)))))) (pss_one (ps_ret pe_bl)) pss_nil)
      (pss_one (ps_ret (pe_and (pe_fn h_law_is_group (hr.mono (by decide)) (by rfl) (pa_cons (pv 6) (pa_cons (pv 0) pa_nil))) (pe_one (pe_cmpR op_ne (pe_ix (ixT (K := K) rfl) (pv 6) (pv 3) (fun _ _ => rfl)) pe_int (nomark _))))))) pss_nil)
      (pss_cons (ps_if (PW.pt (pw_or (pt_cmp (pc_notN (pv 6))) (pw_or (pt_not (pt_val (pe_fn h_law_is_change (hr.mono (by decide)) (by rfl) (pa_cons (pv 7) (pa_cons (pe_callB (lenS (K := K) rfl) (by rfl) T.len (by decide +kernel) (pa_cons (pv 1) pa_nil)) pa_nil))))) (pw_or1 (pt_not (pt_val (pe_fn h_law_is_ratio (hr.mono (by decide)) (by rfl) (pa_cons (pv 5) pa_nil)))))))) (pss_one (ps_ret pe_bl)) pss_nil)
      (pss_cons (ps_for PassesOwn.never rfl (pi_range1 (by rfl) T.range (pa_cons (pe_callB (lenS (K := K) rfl) (by rfl) T.len (by decide +kernel) (pa_cons (pv 0) pa_nil)) pa_nil)) (pg_name (i := 8) sc_law_letter_right.nd rfl (Or.inl rfl) (Or.inr rfl))
      (pss_one (ps_if (pt_cmpR op_ne (pe_cmpR op_ne (pe_fn h_law_inner (hr.mono (by decide)) (by rfl) (pa_cons (pv 7) (pa_cons (pe_ix (ixL (K := K) rfl) (pv 0) (pv 8) (fun _ _ => rfl)) pa_nil))) pe_int (nomark _)) (pe_cmpR op_eq (pv 8) (pv 3) (nomark _)) (nomark _)) (pss_one (ps_ret pe_bl)) pss_nil)))
      (pss_cons (ps_set (i := 9) sc_law_letter_right.nd rfl (Or.inl rfl) (pe_fn h_law_q (hr.mono (by decide)) (by rfl) (pa_cons (pe_fn h_law_inner (hr.mono (by decide)) (by rfl) (pa_cons (pv 7) (pa_cons (pv 1) pa_nil))) (pa_cons (pe_fn h_law_inner (hr.mono (by decide)) (by rfl) (pa_cons (pv 7) (pa_cons (pe_ix (ixL (K := K) rfl) (pv 0) (pv 3) (fun _ _ => rfl)) pa_nil))) pa_nil))))
      (pss_one (ps_ret (pe_and (pe_cmpR (eqD (K := K) rfl hr.units) (pv 5) (pv 9) (nomark _)) (pe_one (pe_cmpR op_eq (pv 4) (pe_ifExp (pt_cmpR op_eq (pe_ix (ixT (K := K) rfl) (pv 9) pe_int (fun _ _ => rfl)) pe_int (nomark _)) pe_str pe_str) (nomark _))))))))))), ?_⟩
  obtain ⟨b1, y1, rfl, k1, e1⟩ := Dp.tupI d1
  obtain ⟨b2, y2, rfl, k2, e2⟩ := Dp.tupI d2
  obtain ⟨b3, y3, rfl, k3, e3⟩ := Dp.tupI d3
  obtain ⟨b4, y4, rfl, k4, e4⟩ := Dp.tupI d4
  have at_l : ∀ {ys : List V} {f : Ltr → PyData}, DpAll K H ys (ls.map f) → ∃ v, ys[j]? = some v ∧ Dp K H v (f l) := fun {ys f} h => DpAll.get h (by rw [List.getElem?_map, hl]; rfl)
  obtain ⟨v1, g1, w1⟩ := at_l e1
  obtain ⟨v2, g2, w2⟩ := at_l e2
  obtain ⟨v3, g3, w3⟩ := at_l e3
  obtain ⟨v4, g4, w4⟩ := at_l e4
  refine ⟨_, rfl, x, CH, dx, _, _, rfl, hx, c.cls, c.kinds, rfl, _, rfl, b1, y1, _, _, rfl, rfl, k1, at_of rfl g1, ?_⟩
  refine ⟨_, rfl, x, CH, dx, _, _, rfl, hx, c.cls, c.powers, rfl, _, rfl, b2, y2, _, _, rfl, rfl, k2, at_of rfl g2, ?_⟩
  refine ⟨_, rfl, x, CH, dx, _, _, rfl, hx, c.cls, c.groups, rfl, _, rfl, b3, y3, _, _, rfl, rfl, k3, at_of rfl g3, ?_⟩
  refine ⟨_, rfl, x, CH, dx, _, _, rfl, hx, c.cls, c.changes, rfl, _, rfl, b4, y4, _, _, rfl, rfl, k4, at_of rfl g4, ?_⟩
  refine ⟨by show 4 ≤ sizeLine; decide, fun T0 hT0 => ?_⟩
  have sT := same_new (o := .tup [v1, v2, v3, v4]) hT0
  refine ⟨T0, [v1, v2, v3, v4], rfl, sqT upd_same, rfl, _, _, rfl, _, _, rfl, _, _, rfl, _, _, rfl, rfl, ?_⟩
  revert sT
  generalize upd H T0 (.tup [v1, v2, v3, v4]) = H1
  intro s1
  cases l with
  | free g =>
    cases w1
    cases w2
    cases w4
    obtain ⟨lg, hz, hg0⟩ := ok
    obtain ⟨pg, rfl, qg⟩ := get_tup w3
    refine ⟨_, rfl, rfl, _, rfl, ?_⟩
    rw [decide_eq_true rfl]
    refine ⟨_, rfl, _, rfl, ?_⟩
    dsimp only [if_false]
    refine ⟨_, rfl, _, rfl, ?_⟩
    dsimp only [if_false, tNext]
    refine ⟨_, rfl, _, rfl, ?_⟩
    refine ⟨_, _, A, m, n, g, rfl, Dp.up s1 _ dv, R, by omega, by omega, by omega, Dp.up s1 _ w3, lg, fun i j x _ => .inr (.inl (bA i j)), hz, fun H2 s2 => ⟨_, rfl, ?_⟩⟩
    dsimp only [if_true]
    refine ⟨_, rfl, _, rfl, pg, _, _, _, rfl, rfl, Same.seqT (s1.trans s2) qg, at_of rfl (iv_getD lg hj), rfl, ?_⟩
    rw [decide_eq_false (fun h => hg0 (V.int.inj h))]
    exact fin _ (s1.trans s2)
  | held p ch =>
    cases w1
    cases w3
    obtain ⟨lc, hE, hk, hE2, hpp⟩ := ok
    obtain ⟨pp, rfl, qp⟩ := get_rat w2
    obtain ⟨pc, rfl, qc⟩ := get_tup w4
    have nfree : ∀ s : Str, s = Str.ofString "none" ∨ s = Str.ofString "fixed" → decide (V.str s = V.str (Str.ofString "free")) = false := fun s hs => by
      rcases hs with rfl | rfl <;> decide
    have hcase : (if p.num = 0 then Str.ofString "none" else Str.ofString "fixed") = Str.ofString "none" ∨ (if p.num = 0 then Str.ofString "none" else Str.ofString "fixed") = Str.ofString "fixed" := by
      split
      · exact .inl rfl
      · exact .inr rfl
    have mulA : ∀ (k i : Nat) (x y : Int), ch[i]? = some x → (A.getD k [])[i]? = some y → Mul x y := fun k i x y _ hy => .inr (.inl (by
      have := bA k i
      unfold ent at this
      rwa [show (A.getD k []).getD i 0 = y by rw [List.getD_eq_getElem?_getD, hy]; rfl] at this))
    refine ⟨_, rfl, rfl, _, rfl, ?_⟩
    rw [nfree _ hcase]
    dsimp only [tNext]
    refine ⟨_, rfl, _, rfl, ?_⟩
    dsimp only [if_false]
    refine ⟨_, rfl, _, rfl, q, _, rfl, .inl (s1.seq hq), ?_⟩
    refine ⟨_, ch, congrArg (fun z : Nat => [V.ref pc, V.int (z : Int)]) (by rw [List.length_map, lb, lc] : (iv b).length = ch.length), Dp.up s1 _ w4, by omega, fun H2 s2 => ⟨_, rfl, ?_⟩⟩
    have s12 := s1.trans s2
    refine ⟨_, rfl, ⟨pp, p, rfl, Same.seqT s12 qp, hE, _, rfl, ?_⟩⟩
    refine ⟨_, rfl, a, xs, rfl, .inl (s12.seq hS), m, congrArg (fun z : Nat => [V.int (z : Int)]) (by rw [lxs, lA] : xs.length = m), by omega, by omega, ?_⟩
    refine for_it walk_range (fun i σ H' => ∃ y8, σ = [some (.ref a), some (.ref q), some (.ref x), some (.int (j : Int)), some (.str (if p.num = 0 then Str.ofString "none" else Str.ofString "fixed")), some (.ref pp), some .non, some (.ref pc), y8, none] ∧ Same H1 H') ⟨none, rfl, s2⟩ (fun _ _ _ _ _ => trivial) ?_ ?_
    · rintro k xv σ H3 H4 hk4 ⟨y8, rfl, s4⟩ ⟨rfl, rfl⟩
      have hkm : k < m := by omega
      have ek : (0 : Int) + (k : Int) = (k : Int) := by omega
      have s14 := s1.trans s4
      obtain ⟨pk, gk, qk⟩ := hrow k (by omega)
      have lk : (A.getD k []).length = n := R.row hkm
      refine ⟨_, rfl, _, rfl, _, rfl, a, xs, _, _, rfl, rfl, s14.seq hS, at_of ek gk, ?_⟩
      refine ⟨_, _, ch, A.getD k [], rfl, ⟨pc, pk, rfl, rfl, .inr (.inl ⟨Same.seqT s14 qc, Same.seqT s14 qk⟩)⟩, by omega, by omega, mulA k, fun H5 s5 => ?_⟩
      refine ⟨rfl, _, rfl, _, rfl, rfl, rfl, _, rfl, ?_⟩
      rw [dec_iff (hk k hkm)]
      exact ⟨_, rfl, s4.trans s5⟩
    · rintro σ H3 ⟨y8, rfl, s3⟩
      have s13 := s1.trans s3
      obtain ⟨pj, gj, qj⟩ := hrow j (by omega)
      have lj : (A.getD j []).length = n := R.row hj
      have hj0 : inner ch (A.getD j []) ≠ 0 := (hk j hj).mpr rfl
      refine ⟨_, rfl, _, rfl, ?_⟩
      refine ⟨_, _, ch, b, rfl, ⟨pc, q, rfl, rfl, .inr (.inr ⟨Same.seqT s13 qc, s13.seq hq⟩)⟩, by omega, by omega, fun i x y _ hy => .inr (.inl (bb y (List.mem_of_getElem? hy))), fun H4 s4 => ?_⟩
      have s14 := s13.trans s4
      refine ⟨_, rfl, _, rfl, _, rfl, a, xs, _, _, rfl, rfl, s14.seq hS, at_of rfl gj, ?_⟩
      refine ⟨_, _, ch, A.getD j [], rfl, ⟨pc, pj, rfl, rfl, .inr (.inl ⟨Same.seqT s14 qc, Same.seqT s14 qj⟩)⟩, by omega, by omega, mulA j, fun H5 s5 => ?_⟩
      have s15 := s14.trans s5
      refine ⟨_, _, rfl, hj0, hE2, fun pd H6 s6 npd hpd => ?_⟩
      rw [← hpp] at hpd
      have s16 := s15.trans s6
      have dp' : Dp K H6 (.ref pp) (dR p) := .tup (Same.seqT s16 qp) (.cons (.int _) (.cons (.int _) .nil))
      have dd' : Dp K H6 (.ref pd) (dR p) := .tup (sqT hpd) (.cons (.int _) (.cons (.int _) .nil))
      refine ⟨_, rfl, _, rfl, dR p, dR p, dp', dd', rfl, rfl, ?_⟩
      rw [eqv_dR]
      refine ⟨_, rfl, ?_⟩
      dsimp only [if_true]
      refine ⟨_, rfl, _, rfl, pd, _, _, _, rfl, rfl, sqT hpd, at0 p, rfl, _, rfl, ?_⟩
      by_cases e0 : p.num = 0
      · rw [decide_eq_true (congrArg V.int e0), if_pos e0]
        refine ⟨rfl, ?_⟩
        rw [decide_eq_true rfl]
        exact fin _ s16
      · rw [decide_eq_false (fun h => e0 (V.int.inj h)), if_neg e0]
        refine ⟨rfl, ?_⟩
        rw [decide_eq_true rfl]
        exact fin _ s16
end
end K51W

set_option maxHeartbeats 4000000
/-! _law_right. -/
namespace K51W
open PySem PySem.Spec PyProof.Rows L2 K51
section
variable {P : Program} {w : World} {K : PySem.W.Frag} {mg : Str → Option Value} {base : Heap} {CZ CH : Addr}
/-- what isinstance asks of a class -/
structure ICl (K : PySem.W.Frag) (C : Addr) : Prop where
  cls : Cls K C
  ha : PySem.W.findIn K (.ref C) "__class__" = some (some (.builtin "object.__class__"))
  hn : PySem.W.specialIn K (.builtin "object.__class__") "__get__" = some (some (.builtin "getset_descriptor.__get__"))
  htk : PySem.W.takesIn K (.builtin "object.__class__") = some true
  hm : PySem.W.mroIn K C (.type "object") = some true
  me : PySem.W.kitOne K (.ref C) (.ref C) = some true
theorem ICl.ty {H : Hp} {x C dx : Addr} {fs : List (Str × V)} (h : ICl K C) (e : H x = some (.ins C dx fs)) : TyX K H (.ref x) (.ref C) := .base (.ins e h.cls h.ha h.hn h.htk h.hm)
def spRight (K : PySem.W.Frag) (CZ CH : Addr) : Sp := fun vs H Q _ => ∃ (v : V) (q x dx : Addr) (A : Mat) (b : List Int) (m w : Nat), vs = [v, .ref q, .ref x] ∧ Dp K H v (dLT A) ∧ SqL K H q (iv b) ∧ Rect m w A ∧ b.length = w ∧ 0 < m ∧ m ≤ 50 ∧ w ≤ 50 ∧ RkOk A w ∧ RkOk (A ++ [b]) w ∧
  (∀ i j, (ent A i j).natAbs < 2 ^ 64) ∧ (∀ x ∈ b, x.natAbs < 2 ^ 64) ∧
  (((runB A w).place ≠ (runB (A ++ [b]) w).place ∧ ∃ vc c, H x = some (.ins CZ dx [("change", vc)]) ∧ Dp K H vc (dTI c) ∧ c.length = w ∧ (∀ k, k < m → inner c (A.getD k []) = 0) ∧ inner c b ≠ 0) ∨
   ((runB A w).place = (runB (A ++ [b]) w).place ∧ ∃ (a1 a2 a3 a4 : V) (ls : List Ltr), H x = some (.ins CH dx (hflds a1 a2 a3 a4)) ∧ Dp K H a1 (.tuple (ls.map dKind)) ∧ Dp K H a2 (.tuple (ls.map dPow)) ∧ Dp K H a3 (.tuple (ls.map dGrp)) ∧ Dp K H a4 (.tuple (ls.map dChg)) ∧ ls.length = m ∧
     ∀ (j : Nat) (l : Ltr), ls[j]? = some l → LetOk A b m w j l)) ∧ ∀ H', Same H H' → Q (.bl true) H'
theorem ok_law_right {f : Addr} {fd : FuncData} (F : Df K "_law_right" "_law_right" s_law_right f fd) (T : Bn mg) (c : HCl K CH) (cz : Cls K CZ) (nz : NoAttr K CZ "change") (iz : ICl K CZ) (ih : ICl K CH) (g_Zero : mg "Zero" = some (.ref CZ)) (g_Hangs : mg "Hangs" = some (.ref CH))
    (h_law_in_span : Fn P w K mg base 42 "_law_in_span" ["_law_exponents_here", "_law_row"] (spSpan K)) (h_law_is_change : Fn P w K mg base 42 "_law_is_change" ["_law_value", "_law_wide"] (spChg K)) (h_law_inner : Fn P w K mg base 41 "_law_inner" ["_law_row", "_law_column"] (spInn K))
    (h_law_letter_right : Fn P w K mg base 44 "_law_letter_right" ["_law_exponents_here", "_law_result", "_law_told", "_law_j"] (spLet K CH)) :
    FnOk P w K mg base CX0 45 f fd ["_law_exponents_here", "_law_result", "_law_told"] (spRight K CZ CH) := by
  refine body_ok F sc_law_right (fun vs H Q E h => by obtain ⟨v, q, x, dx, A, b, m, w, rfl, _⟩ := h; rfl) (fun cdv A outer s H vs Q E hr h => ?_)
  obtain ⟨v, q, x, dx, A, b, m, n, rfl, dv, hq, R, lb, h0, hm, hn, r1, r2, bA, bb, hcase, fin⟩ := h
  obtain ⟨a, xs, rfl, hS, lxs, hrow⟩ := get_rowsT dv
  have lA : A.length = m := R.1
  refine ⟨_, (pss_cons (ps_if (pt_not (pt_val (pe_fn h_law_in_span (hr.mono (by decide)) (by rfl) (pa_cons (pv 0) (pa_cons (pv 1) pa_nil))))) (pss_cons (ps_if (PW.pt (pw_or (pt_not (pt_val (pe_callB (isiK (K := K) rfl) (by rfl) T.isinstance (by decide +kernel) (pa_cons (pv 2) (pa_cons (pe_glob (v := .ref CZ) (by rfl) g_Zero rfl) pa_nil))))) (pw_or1 (pt_not (pt_val (pe_fn h_law_is_change (hr.mono (by decide)) (by rfl) (pa_cons (fldK (K := K) rfl (pv 2) rfl) (pa_cons (pe_callB (lenS (K := K) rfl) (by rfl) T.len (by decide +kernel) (pa_cons (pv 1) pa_nil)) pa_nil)))))))) (pss_one (ps_ret pe_bl)) pss_nil)
      (pss_cons (ps_if (pt_cmpR (neD (K := K) rfl hr.units) (pe_lc (own := [("_law_row", 3)]) (by rfl) sc_law_right.nd (piL (K := K) rfl (pv 0)) (blkOk_by (N := ["_law_exponents_here", "_law_result", "_law_told", "_law_row", "_law_j"]) (sc := defScope s_law_right) (own := [("_law_row", 3)]) (by decide +kernel)) (fun _ _ _ _ _ => (pg_name (i := 3) sc_law_right.nd rfl (Or.inl rfl) (Or.inr rfl))) (fun _ _ _ _ _ => (pts_one (pt_cmpR op_ne (pe_fn h_law_inner (hr.mono (by decide)) (by rfl) (pa_cons (fldK (K := K) rfl (pv 2) rfl) (pa_cons (pv 3) pa_nil))) pe_int (nomark _)))) (fun _ _ _ _ _ => (pv 3))) (pe_lst pa_nil) (nomark _)) (pss_one (ps_ret pe_bl)) pss_nil)
      (pss_one (ps_ret (pe_cmpR op_ne (pe_fn h_law_inner (hr.mono (by decide)) (by rfl) (pa_cons (fldK (K := K) rfl (pv 2) rfl) (pa_cons (pv 1) pa_nil))) pe_int (nomark _)))))) pss_nil)
      (pss_cons (ps_if (pt_not (pt_val (pe_callB (isiK (K := K) rfl) (by rfl) T.isinstance (by decide +kernel) (pa_cons (pv 2) (pa_cons (pe_glob (v := .ref CH) (by rfl) g_Hangs rfl) pa_nil))))) (pss_one (ps_ret pe_bl)) pss_nil)
      (pss_cons (ps_for PassesOwn.never rfl (piL (K := K) rfl (pe_lst (pa_cons (fldK (K := K) rfl (pv 2) rfl) (pa_cons (fldK (K := K) rfl (pv 2) rfl) (pa_cons (fldK (K := K) rfl (pv 2) rfl) (pa_cons (fldK (K := K) rfl (pv 2) rfl) pa_nil)))))) (pg_name (i := 3) sc_law_right.nd rfl (Or.inl rfl) (Or.inr rfl))
      (pss_one (ps_if (PW.pt (pw_or (pt_not (pt_val (pe_callB (isiK (K := K) rfl) (by rfl) T.isinstance (by decide +kernel) (pa_cons (pv 3) (pa_cons (pe_bltn (v := .ty "tuple") (by rfl) T.tuple (by decide +kernel) rfl) pa_nil))))) (pw_or1 (pt_cmpR op_ne (pe_callB (lenS (K := K) rfl) (by rfl) T.len (by decide +kernel) (pa_cons (pv 3) pa_nil)) (pe_callB (lenS (K := K) rfl) (by rfl) T.len (by decide +kernel) (pa_cons (pv 0) pa_nil)) (nomark _))))) (pss_one (ps_ret pe_bl)) pss_nil)))
      (pss_cons (ps_for PassesOwn.never rfl (pi_range1 (by rfl) T.range (pa_cons (pe_callB (lenS (K := K) rfl) (by rfl) T.len (by decide +kernel) (pa_cons (pv 0) pa_nil)) pa_nil)) (pg_name (i := 4) sc_law_right.nd rfl (Or.inl rfl) (Or.inr rfl))
      (pss_one (ps_if (pt_not (pt_val (pe_fn h_law_letter_right (hr.mono (by decide)) (by rfl) (pa_cons (pv 0) (pa_cons (pv 1) (pa_cons (pv 2) (pa_cons (pv 4) pa_nil))))))) (pss_one (ps_ret pe_bl)) pss_nil)))
      (pss_one (ps_ret pe_bl)))))), ?_⟩
  refine ⟨_, rfl, _, rfl, ?_⟩
  refine ⟨_, q, A, b, m, n, rfl, dv, hq, R, lb, h0, hm, hn, r1, r2, fun H1 s1 => ⟨_, rfl, ?_⟩⟩
  rcases hcase with ⟨hne, vc, ch, hx, dc, lc, hz, hb0⟩ | ⟨heq, a1, a2, a3, a4, ls, hx, d1, d2, d3, d4, ll, hok⟩
  · rw [decide_eq_false hne]
    obtain ⟨pc, rfl, qc⟩ := get_tup dc
    have hx1 := s1 _ _ hx
    refine ⟨_, rfl, _, _, _, _, true, rfl, .own _, iz.ty hx1, iz.me, _, rfl, ?_⟩
    refine ⟨_, rfl, x, CZ, dx, _, _, rfl, hx1, cz, nz, rfl, _, rfl, q, _, rfl, .inl (s1.seq hq), ?_⟩
    refine ⟨_, ch, congrArg (fun z : Nat => [V.ref pc, V.int (z : Int)]) (by rw [List.length_map, lb, lc] : (iv b).length = ch.length), Dp.up s1 _ dc, by omega, fun H2 s2 => ⟨_, rfl, ?_⟩⟩
    dsimp only [tNext]
    have s12 := s1.trans s2
    refine ⟨_, rfl, a, rfl, ⟨xs, s12.seq hS⟩, fun D hD => ?_⟩
    refine lc_keep (n := xs.length) walk_list hD (fun _ => false) (fun _ _ _ => True) (fun _ _ _ _ _ _ => trivial) (by omega) (fun _ s => s.seq (s12.seq hS)) ?_ ?_
    · rintro k y H3 H4 hk s3 hD3 ⟨rfl, ey⟩ Nx Fx gN gF
      have hkm : k < m := by omega
      obtain ⟨pk, gk, qk⟩ := hrow k (by omega)
      cases gk.symm.trans ey
      have s13 := s12.trans s3
      have lk : (A.getD k []).length = n := R.row hkm
      refine ⟨rfl, _, rfl, x, CZ, dx, _, _, rfl, s13 _ _ hx, cz, nz, rfl, _, rfl, ?_⟩
      refine ⟨_, _, ch, A.getD k [], rfl, ⟨pc, pk, rfl, rfl, .inr (.inl ⟨Same.seqT s13 qc, Same.seqT s13 qk⟩)⟩, by omega, by omega, fun i x y _ hy => .inr (.inl ?_), fun H5 s5 => ?_⟩
      · have := bA k i
        unfold ent at this
        rwa [show (A.getD k []).getD i 0 = y by rw [List.getD_eq_getElem?_getD, hy]; rfl] at this
      · refine ⟨rfl, _, rfl, ?_⟩
        rw [hz k hkm]
        exact gF rfl _ s5
    intro H3 zs s3 f1 f2 f3
    obtain rfl := keep_nil f2
    refine ⟨by show 0 ≤ sizeLine; decide, fun z0 hz0 => ?_⟩
    have sz := same_new (o := .lst []) hz0
    refine ⟨.list [], .list [], .lst (sqL (sz _ _ f1)) .nil, .lst (sqL upd_same) .nil, rfl, rfl, _, rfl, ?_⟩
    rw [nil_eq]
    have s14 := s12.trans (s3.trans sz)
    revert s14
    generalize upd H3 z0 (.lst []) = H4
    intro s14
    refine ⟨_, rfl, x, CZ, dx, _, _, rfl, s14 _ _ hx, cz, nz, rfl, _, rfl, ?_⟩
    refine ⟨_, _, ch, b, rfl, ⟨pc, q, rfl, rfl, .inr (.inr ⟨Same.seqT s14 qc, s14.seq hq⟩)⟩, by omega, by omega, fun i x y _ hy => .inr (.inl (bb y (List.mem_of_getElem? hy))), fun H5 s5 => ?_⟩
    refine ⟨rfl, ?_⟩
    rw [decide_eq_false (fun h => hb0 (V.int.inj h))]
    exact fin _ (s14.trans s5)
  · rw [decide_eq_true heq]
    dsimp only [tNext]
    have hx1 := s1 _ _ hx
    refine ⟨_, rfl, _, _, _, _, true, rfl, .own _, ih.ty hx1, ih.me, _, rfl, ?_⟩
    dsimp only [tNext]
    refine ⟨_, rfl, x, CH, dx, _, _, rfl, hx1, c.cls, c.kinds, rfl, _, rfl, x, CH, dx, _, _, rfl, hx1, c.cls, c.powers, rfl, _, rfl, x, CH, dx, _, _, rfl, hx1, c.cls, c.groups, rfl, _, rfl, x, CH, dx, _, _, rfl, hx1, c.cls, c.changes, rfl, by show 4 ≤ sizeLine; decide, fun W hW => ?_⟩
    have sW := same_new (o := .lst [a1, a2, a3, a4]) hW
    have hW1 : SqL K (upd H1 W (.lst [a1, a2, a3, a4])) W [a1, a2, a3, a4] := sqL upd_same
    have s2 := s1.trans sW
    revert hW1 s2
    generalize upd H1 W (.lst [a1, a2, a3, a4]) = H2
    intro hW1 s2
    refine ⟨W, rfl, ⟨_, hW1⟩, ?_⟩
    have tups : ∀ (i : Nat) y, [a1, a2, a3, a4][i]? = some y → ∃ p zs, y = .ref p ∧ SqT K H p zs ∧ zs.length = m := fun i y hy => by
      have one : ∀ {v : V} {f : Ltr → PyData}, Dp K H v (.tuple (ls.map f)) → ∃ p zs, v = .ref p ∧ SqT K H p zs ∧ zs.length = m := fun {v f} d => by
        obtain ⟨p, zs, e, h1, h2⟩ := Dp.tupI d
        exact ⟨p, zs, e, h1, by rw [DpAll.len h2, List.length_map, ll]⟩
      have hmem := List.mem_of_getElem? hy
      simp only [List.mem_cons, List.not_mem_nil, or_false] at hmem
      rcases hmem with rfl | rfl | rfl | rfl
      · exact one d1
      · exact one d2
      · exact one d3
      · exact one d4
    refine for_it walk_list (fun i σ H' => H' = H2 ∧ ∃ y3, σ = [some (.ref a), some (.ref q), some (.ref x), y3, none]) ⟨rfl, none, rfl⟩ (fun i σ H' _ ⟨e, _⟩ => e ▸ hW1) ?_ ?_
    · rintro i y σ H3 H4 hi ⟨rfl, y3, rfl⟩ ⟨rfl, ey⟩
      obtain ⟨p, zs, rfl, hz, lz⟩ := tups i y ey
      have hz2 := Same.seqT s2 hz
      refine ⟨_, rfl, _, _, _, _, true, rfl, .ty _, tyx_t hz2, kit_ty (by decide), _, rfl, ?_⟩
      refine ⟨_, rfl, p, _, rfl, .inr hz2, _, rfl, a, xs, rfl, .inl (s2.seq hS), rfl, _, rfl, ?_⟩
      rw [lz, lxs, lA, decide_eq_true rfl]
      exact ⟨rfl, _, rfl⟩
    · rintro σ H3 ⟨rfl, y3, rfl⟩
      refine ⟨_, rfl, a, xs, rfl, .inl (s2.seq hS), m, congrArg (fun z : Nat => [V.int (z : Int)]) (by rw [lxs, lA] : xs.length = m), by omega, by omega, ?_⟩
      refine for_it walk_range (fun i σ H' => Same H3 H' ∧ ∃ y4, σ = [some (.ref a), some (.ref q), some (.ref x), y3, y4]) ⟨Same.refl _, none, rfl⟩ (fun _ _ _ _ _ => trivial) ?_ ?_
      · rintro j xv σ H4 H5 hj4 ⟨s4, y4, rfl⟩ ⟨rfl, rfl⟩
        have hj : j < m := by omega
        have ej : (0 : Int) + (j : Int) = (j : Int) := by omega
        obtain ⟨l, hl⟩ : ∃ l, ls[j]? = some l := ⟨_, List.getElem?_eq_getElem (by omega)⟩
        have s24 := s2.trans s4
        refine ⟨_, rfl, _, rfl, _, rfl, _, rfl, ?_⟩
        refine ⟨_, q, x, dx, a1, a2, a3, a4, A, b, ls, m, n, j, l, congrArg (fun z => [V.ref a, V.ref q, V.ref x, V.int z]) ej, Dp.up s24 _ dv, s24.seq hq, s24 _ _ hx, Dp.up s24 _ d1, Dp.up s24 _ d2, Dp.up s24 _ d3, Dp.up s24 _ d4, R, lb, hj, hm, hn, hl, hok j l hl, bA, bb, fun H6 s6 => ⟨_, rfl, ?_⟩⟩
        exact ⟨s4.trans s6, _, rfl⟩
      · rintro σ H4 ⟨s4, y4, rfl⟩
        exact fin _ (s2.trans s4)
end
end K51W

set_option maxHeartbeats 8000000
/-! law. -/
namespace K51W
open PySem PySem.Spec PyProof.Rows L2 K51
theorem inner_le {a b : Nat} : ∀ (r c : List Int), (∀ x ∈ r, x.natAbs ≤ a) → (∀ y ∈ c, y.natAbs ≤ b) → (inner r c).natAbs ≤ r.length * (a * b)
  | [], c, _, _ => by simp [inner]
  | x :: r, [], _, _ => by simp [inner]
  | x :: r, y :: c, h1, h2 => by
    have ih := inner_le r c (fun z hz => h1 z (List.mem_cons_of_mem _ hz)) (fun z hz => h2 z (List.mem_cons_of_mem _ hz))
    have hx := h1 x (List.mem_cons_self ..)
    have hy := h2 y (List.mem_cons_self ..)
    have e : inner (x :: r) (y :: c) = x * y + inner r c := rfl
    have hxy : (x * y).natAbs ≤ a * b := by rw [Int.natAbs_mul]; exact Nat.mul_le_mul hx hy
    have := Int.natAbs_add_le (x * y) (inner r c)
    rw [e, List.length_cons, Nat.add_mul, Nat.one_mul]
    omega
theorem units_le {A : Mat} {m w a b : Nat} {p : List Int} (hA : ∀ r ∈ A, ∀ x ∈ r, x.natAbs ≤ b) (hp : ∀ x ∈ p, x.natAbs ≤ a) : ∀ x ∈ unitsOf A w p, x.natAbs ≤ p.length * (a * b) := fun x hx => by
  unfold unitsOf at hx
  obtain ⟨c, hc, rfl⟩ := List.mem_map.mp hx
  unfold turnM at hc
  obtain ⟨k, _, rfl⟩ := List.mem_map.mp hc
  refine inner_le _ _ hp fun y hy => ?_
  obtain ⟨r, hr, rfl⟩ := List.mem_map.mp hy
  by_cases e : k < r.length
  · refine hA r hr _ ?_
    have : r.getD k 0 = r[k] := by simp [List.getD_eq_getElem?_getD, e]
    rw [this]
    exact List.getElem_mem e
  · rw [show r.getD k 0 = 0 by simp [List.getD_eq_getElem?_getD, show r.length ≤ k by omega]]
    exact Nat.zero_le _
theorem ints_of : ∀ {ys : List V}, (∀ (j : Nat) (v : V), ys[j]? = some v → ∃ x : Int, v = .int x) → ∃ r : List Int, ys = iv r
  | [], _ => ⟨[], rfl⟩
  | y :: ys, h => by
    obtain ⟨x, rfl⟩ := h 0 y rfl
    obtain ⟨r, rfl⟩ := ints_of (ys := ys) fun j v hv => h (j + 1) v (by simpa using hv)
    exact ⟨x :: r, rfl⟩
section
variable {P : Program} {w : World} {K : PySem.W.Frag} {mg : Str → Option Value} {base : Heap} {CZ CH : Addr}
theorem RowsS.lt {H : Hp} {v : V} {M : Mat} (h : Dp K H v (dLT M)) : RowsS K H v M := by
  obtain ⟨a, xs, e, q, l, r⟩ := get_rowsT h
  refine ⟨a, xs, e, .inl q, l, fun i r' hr => ?_⟩
  have hi := (List.getElem?_eq_some_iff.mp hr).1
  obtain ⟨p, h1, h2⟩ := r i hi
  rw [getD_at hi] at hr
  cases hr
  exact ⟨p, h1, .inr h2⟩
def spLaw (K : PySem.W.Frag) : Sp := fun vs H Q _ => ∃ (s : Addr) (cs : List Int), vs = [.ref s] ∧ SqL K H s (iv cs) ∧ cs.length ≤ 100 ∧ ∀ H', Q (.bl true) H'
theorem ok_law {f : Addr} {fd : FuncData} (F : Df K "law" "law" s_law f fd) (B : Big P base) (T : Bn mg) (PL : PlainLaw) (cz : Cls K CZ) (nz : NoAttr K CZ "change") (c : HCl K CH)
    (h_law_pen : Fn P w K mg base 41 "_law_pen" ["_law_script"] (spPen K)) (h_law_draw : Fn P w K mg base 41 "_law_draw" ["_law_pen_here", "_law_many"] (spDraw K)) (h_law_pick : Fn P w K mg base 42 "_law_pick" ["_law_pen_here", "_law_some"] (spPick K))
    (h_law_exponents : Fn P w K mg base 44 "_law_exponents" ["_law_pen_here", "_law_many", "_law_wide", "_law_most"] (spExp K)) (h_law_unit_of : Fn P w K mg base 42 "_law_unit_of" ["_law_exponents_here", "_law_powers"] (spUnit K))
    (h_hangs : Fn P w K mg base 50 "hangs" ["exponents", "result"] (spHa K CZ CH)) (h_law_right : Fn P w K mg base 45 "_law_right" ["_law_exponents_here", "_law_result", "_law_told"] (spRight K CZ CH))
    (k_Zero : Mc P w K mg base 41 "Zero" CZ ["self", "change"] (spZI K CZ)) (k_Hangs : Mc P w K mg base 41 "Hangs" CH ["self", "kinds", "powers", "groups", "changes"] (spHI K CH)) :
    FnOk P w K mg base CX0 51 f fd ["_law_script"] (spLaw K) := by
  refine body_ok F sc_law (fun vs H Q E h => by obtain ⟨s, cs, rfl, _⟩ := h; rfl) (fun cdv A outer s H vs Q E hr h => ?_)
  obtain ⟨sa, cs, rfl, hS, hcs, fin⟩ := h
  refine ⟨_, (pss_cons (ps_set (i := 1) sc_law.nd rfl (Or.inr rfl) (pe_fn h_law_pen (hr.mono (by decide)) (by rfl) (pa_cons (pv 0) pa_nil)))
      (pss_cons (ps_for PassesOwn.never rfl (pi_range1 (by rfl) T.range (pa_cons pe_int pa_nil)) (pg_name (i := 2) sc_law.nd rfl (Or.inl rfl) (Or.inr rfl))
      (pss_cons (ps_par (i := 3) (j := 4) (by rfl) sc_law.nd rfl rfl (by decide) rfl rfl (pa_cons (pe_op op_add pe_int (pe_fn h_law_draw (hr.mono (by decide)) (by rfl) (pa_cons (pv 1) (pa_cons pe_int pa_nil)))) (pa_cons (pe_op op_add pe_int (pe_fn h_law_draw (hr.mono (by decide)) (by rfl) (pa_cons (pv 1) (pa_cons pe_int pa_nil)))) pa_nil)) (by rfl))
      (pss_cons (ps_set (i := 5) sc_law.nd rfl (Or.inl rfl) (pe_fn h_law_exponents (hr.mono (by decide)) (by rfl) (pa_cons (pv 1) (pa_cons (pv 3) (pa_cons (pv 4) (pa_cons (pe_fn h_law_pick (hr.mono (by decide)) (by rfl) (pa_cons (pv 1) (pa_cons (pe_lst (pa_cons pe_int (pa_cons pe_int (pa_cons pe_int pa_nil)))) pa_nil))) pa_nil))))))
      (pss_cons (ps_set (i := 6) sc_law.nd rfl (Or.inl rfl) (pe_fn h_law_unit_of (hr.mono (by decide)) (by rfl) (pa_cons (pv 5) (pa_cons (pe_lc (own := [("_law_k", 7)]) (by rfl) sc_law.nd (pi_range1 (by rfl) T.range (pa_cons (pv 3) pa_nil)) (blkOk_by (N := ["_law_script", "_law_pen_here", "_law_turn", "_law_many", "_law_wide", "_law_exponents_here", "_law_result", "_law_k", "_law_way", "_law_one", "_law_passed", "_law_row", "_law_told", "_law_none", "_law_hung", "_law_made"]) (sc := defScope s_law) (own := [("_law_k", 7)]) (by decide +kernel)) (fun _ _ _ _ _ => (pg_name (i := 7) sc_law.nd rfl (Or.inl rfl) (Or.inr rfl))) (fun _ _ _ _ _ => pts_nil) (fun _ _ _ _ _ => (pe_op op_sub (pe_fn h_law_draw (hr.mono (by decide)) (by rfl) (pa_cons (pv 1) (pa_cons pe_int pa_nil))) pe_int))) pa_nil))))
      (pss_cons (ps_set (i := 8) sc_law.nd rfl (Or.inl rfl) (pe_fn h_law_draw (hr.mono (by decide)) (by rfl) (pa_cons (pv 1) (pa_cons pe_int pa_nil))))
      (pss_cons (ps_if (pt_cmpR op_eq (pv 8) pe_int (nomark _)) (pss_one (ps_setLc (i := 6) (own := [("_law_k", 7)]) (by rfl) sc_law.nd rfl rfl (sw_true rfl rfl rfl (by decide +kernel)) (pi_range1 (by rfl) T.range (pa_cons (pv 4) pa_nil)) (blkOk_by (N := ["_law_script", "_law_pen_here", "_law_turn", "_law_many", "_law_wide", "_law_exponents_here", "_law_result", "_law_k", "_law_way", "_law_one", "_law_passed", "_law_row", "_law_told", "_law_none", "_law_hung", "_law_made"]) (sc := defScope s_law) (own := [("_law_k", 7)]) (by decide +kernel)) (fun _ _ _ _ _ => (pg_name (i := 7) sc_law.nd rfl (Or.inl rfl) (Or.inr rfl))) (fun _ _ _ _ _ => pts_nil) (fun _ _ _ _ _ => (pe_op op_sub (pe_fn h_law_draw (hr.mono (by decide)) (by rfl) (pa_cons (pv 1) (pa_cons pe_int pa_nil))) pe_int)))) pss_nil)
      (pss_cons (ps_if (PW.pt (pw_and (pt_cmpR op_eq (pv 8) pe_int (nomark _)) (pw_and1 (pt_cmpR (eqD (K := K) rfl hr.units) (pe_lc (own := [("_law_one", 9)]) (by rfl) sc_law.nd (piL (K := K) rfl (pv 6)) (blkOk_by (N := ["_law_script", "_law_pen_here", "_law_turn", "_law_many", "_law_wide", "_law_exponents_here", "_law_result", "_law_k", "_law_way", "_law_one", "_law_passed", "_law_row", "_law_told", "_law_none", "_law_hung", "_law_made"]) (sc := defScope s_law) (own := [("_law_one", 9)]) (by decide +kernel)) (fun _ _ _ _ _ => (pg_name (i := 9) sc_law.nd rfl (Or.inl rfl) (Or.inr rfl))) (fun _ _ _ _ _ => (pts_one (pt_cmpR op_ne (pe_op op_modN (pe_callTy call_int1 (by rfl) T.int (by decide +kernel) (pa_cons (pv 9) pa_nil)) pe_int) pe_int (nomark _)))) (fun _ _ _ _ _ => (pv 9))) (pe_lst pa_nil) (nomark _))))) (pss_one (ps_setLc (i := 6) (own := [("_law_one", 9)]) (by rfl) sc_law.nd rfl rfl (sw_true rfl rfl rfl (by decide +kernel)) (piL (K := K) rfl (pv 6)) (blkOk_by (N := ["_law_script", "_law_pen_here", "_law_turn", "_law_many", "_law_wide", "_law_exponents_here", "_law_result", "_law_k", "_law_way", "_law_one", "_law_passed", "_law_row", "_law_told", "_law_none", "_law_hung", "_law_made"]) (sc := defScope s_law) (own := [("_law_one", 9)]) (by decide +kernel)) (fun _ _ _ _ _ => (pg_name (i := 9) sc_law.nd rfl (Or.inl rfl) (Or.inr rfl))) (fun _ _ _ _ _ => pts_nil) (fun _ _ _ _ _ => (pe_op (op_fdivP B ⟨_, _, rfl, rfl, rfl, rfl, rfl⟩ (hr.mono (by decide))) (pv 9) pe_int)))) pss_nil)
      (pss_cons (ps_set (i := 10) sc_law.nd rfl (Or.inl rfl) (pe_fn h_law_pick (hr.mono (by decide)) (by rfl) (pa_cons (pv 1) (pa_cons (pe_lst (pa_cons (pv 5) (pa_cons (pe_callTy (tupO (K := K) rfl) (by rfl) T.tuple (by decide +kernel) (pa_cons (pv 5) pa_nil)) (pa_cons (pe_lc (own := [("_law_row", 11)]) (by rfl) sc_law.nd (piL (K := K) rfl (pv 5)) (blkOk_by (N := ["_law_script", "_law_pen_here", "_law_turn", "_law_many", "_law_wide", "_law_exponents_here", "_law_result", "_law_k", "_law_way", "_law_one", "_law_passed", "_law_row", "_law_told", "_law_none", "_law_hung", "_law_made"]) (sc := defScope s_law) (own := [("_law_row", 11)]) (by decide +kernel)) (fun _ _ _ _ _ => (pg_name (i := 11) sc_law.nd rfl (Or.inl rfl) (Or.inr rfl))) (fun _ _ _ _ _ => pts_nil) (fun _ _ _ _ _ => (pe_callTy (listO (K := K) rfl) (by rfl) T.list (by decide +kernel) (pa_cons (pv 11) pa_nil)))) pa_nil)))) pa_nil))))
      (pss_cons (ps_set (i := 12) sc_law.nd rfl (Or.inl rfl) (pe_fn h_hangs (hr.mono (by decide)) (by rfl) (pa_cons (pv 10) (pa_cons (pe_fn h_law_pick (hr.mono (by decide)) (by rfl) (pa_cons (pv 1) (pa_cons (pe_lst (pa_cons (pv 6) (pa_cons (pe_callTy (tupO (K := K) rfl) (by rfl) T.tuple (by decide +kernel) (pa_cons (pv 6) pa_nil)) pa_nil))) pa_nil))) pa_nil))))
      (pss_one (ps_if (pt_not (pt_val (pe_fn h_law_right (hr.mono (by decide)) (by rfl) (pa_cons (pv 5) (pa_cons (pv 6) (pa_cons (pv 12) pa_nil)))))) (pss_one (ps_ret pe_bl)) pss_nil)))))))))))
      (pss_cons (ps_par (i := 13) (j := 14) (by rfl) sc_law.nd rfl rfl (by decide) rfl rfl (pa_cons (pe_mkc k_Zero (hr.mono (by decide)) (by rfl) (pa_cons (pe_tup (pa_cons pe_int (pa_cons pe_int pa_nil))) pa_nil)) (pa_cons (pe_mkc k_Hangs (hr.mono (by decide)) (by rfl) (pa_cons (pe_tup (pa_cons pe_str pa_nil)) (pa_cons (pe_tup (pa_cons (pe_tup (pa_cons pe_int (pa_cons pe_int pa_nil))) pa_nil)) (pa_cons (pe_tup (pa_cons pe_non pa_nil)) (pa_cons (pe_tup (pa_cons (pe_tup (pa_cons pe_int pa_nil)) pa_nil)) pa_nil))))) pa_nil)) (by rfl))
      (pss_cons (ps_set (i := 15) sc_law.nd rfl (Or.inl rfl) (pe_tup (pa_cons (fldK (K := K) rfl (pv 13) rfl) (pa_cons (fldK (K := K) rfl (pv 14) rfl) (pa_cons (fldK (K := K) rfl (pv 14) rfl) (pa_cons (fldK (K := K) rfl (pv 14) rfl) (pa_cons (fldK (K := K) rfl (pv 14) rfl) pa_nil)))))))
      (pss_one (ps_ret (pe_cmpR (eqD (K := K) rfl hr.units) (pv 15) (pe_tup (pa_cons (pe_tup (pa_cons pe_int (pa_cons pe_int pa_nil))) (pa_cons (pe_tup (pa_cons pe_str pa_nil)) (pa_cons (pe_tup (pa_cons (pe_tup (pa_cons pe_int (pa_cons pe_int pa_nil))) pa_nil)) (pa_cons (pe_tup (pa_cons pe_non pa_nil)) (pa_cons (pe_tup (pa_cons (pe_tup (pa_cons pe_int pa_nil)) pa_nil)) pa_nil)))))) (nomark _)))))))), ?_⟩
  refine ⟨_, rfl, ?_⟩
  refine ⟨sa, cs, rfl, hS, hcs, fun pen G0 s0 fp0 p0 => ?_⟩
  have hpen0 := p0.live
  refine ⟨3, rfl, by decide, by decide, ?_⟩
  refine for_it walk_range (fun i σ H' => ∃ y2 y3 y4 y5 y6 y8 y10 y12, σ = [some (.ref sa), some (.ref pen), y2, y3, y4, y5, y6, none, y8, none, y10, none, y12, none, none, none] ∧ SameP pen G0 H' ∧ PenAt K (wo G0 pen) H' pen (300 * i))
    ⟨none, none, none, none, none, none, none, none, rfl, SameP.refl, p0⟩ (fun _ _ _ _ _ => trivial) ?_ ?_
  · rintro i xv σ H1 H2 hi ⟨y2, y3, y4, y5, y6, y8, y10, y12, rfl, s1, p1⟩ ⟨rfl, rfl⟩
    have hi3 : i < 3 := hi
    have fr : ∀ {H' : Hp} {D : Addr} {n : Nat}, SameP pen G0 H' → PenAt K (wo G0 pen) H' pen n → H' D = none → G0 D = none ∧ D ≠ pen := fun {H' D n} s p h => ⟨s.free hpen0 h p.live, fun z => p.live (z ▸ h)⟩
    have conv : ∀ {Hc H' : Hp} {n : Nat}, SameP pen G0 Hc → PenAt K (wo G0 pen) Hc pen n → Same (nw eH Hc H') (nw eH G0 H') := fun {Hc H' n} s p b o e => by
      cases q : Hc b with
      | none => rw [nw_new q] at e; rw [nw_new (fr s p q).1]; exact e
      | some u => rw [nw_old q] at e; cases e
    have loP : ∀ {D : Addr}, G0 D = none → (wo G0 pen) D = none := fun {D} h => by
      by_cases e : D = pen
      · rw [e, wo_none]
      · rw [wo_at e, h]
    -- many, wide
    refine ⟨_, rfl, ?_⟩
    refine ⟨pen, 6, 300 * i, _, rfl, by decide, by omega, p1, fun u1 H3 s3 p3 a1 a2 => ⟨_, _, rfl, rfl, ?_⟩⟩
    have t3 := s1.trans s3
    refine ⟨_, rfl, ?_⟩
    refine ⟨pen, 4, _, _, rfl, by decide, by omega, p3, fun u2 H4 s4 p4 b1 b2 => ⟨_, _, rfl, rfl, _, _, rfl, ?_⟩⟩
    have t4 := t3.trans s4
    obtain ⟨m, em, hm0, hm⟩ : ∃ m : Nat, (1 : Int) + u1 = (m : Int) ∧ 0 < m ∧ m ≤ 6 := ⟨(1 + u1).toNat, by omega, by omega, by omega⟩
    obtain ⟨wd, ew, hw0, hw⟩ : ∃ m : Nat, (1 : Int) + u2 = (m : Int) ∧ 0 < m ∧ m ≤ 4 := ⟨(1 + u2).toNat, by omega, by omega, by omega⟩
    dsimp only
    rw [em, ew]
    -- exponents
    refine ⟨_, rfl, _, rfl, _, rfl, _, rfl, by show 3 ≤ sizeLine; decide, fun D hD => ?_⟩
    obtain ⟨gD, nD⟩ := fr t4 p4 hD
    have sD := same_new (o := .lst [.int 2, .int 4, .int 20]) hD
    refine ⟨pen, D, [.int 2, .int 4, .int 20], _, _, rfl, sqL (by rw [wo_at nD, upd_same]), by decide, by omega, p4.same sD, fun ix v H5 hv s5 p5 => ?_⟩
    have t5 := (t4.trans (SameP.of sD)).trans s5
    obtain ⟨mo, rfl, hmo⟩ : ∃ mo : Nat, v = .int (mo : Int) ∧ mo ≤ 20 := by
      have hmem := List.mem_of_getElem? hv
      simp only [List.mem_cons, List.not_mem_nil, or_false] at hmem
      rcases hmem with rfl | rfl | rfl
      · exact ⟨2, rfl, by decide⟩
      · exact ⟨4, rfl, by decide⟩
      · exact ⟨20, rfl, by decide⟩
    refine ⟨pen, m, wd, mo, _, _, rfl, hm, hw0, hw, hmo, by omega, p5, fun a A H6 s6 p6 R bA dA => ?_⟩
    have t6 := t5.trans s6
    have dA6 := Dp.up (conv t5 p5) _ dA
    clear dA hv s5 s6 p5 t5
    -- powers
    refine ⟨_, rfl, _, rfl, m, rfl, by omega, by omega, fun D2 hD2 => ?_⟩
    obtain ⟨gD2, nD2⟩ := fr t6 p6 hD2
    refine lc_st walk_range hD2 (fun k ys Hx => SameP pen G0 Hx ∧ PenAt K (wo G0 pen) Hx pen (300 * i + 1 + 1 + 1 + 200 + k) ∧ Dp K (nw eH G0 Hx) (.ref a) (dLT A) ∧ ∃ r : List Int, ys = iv r ∧ ∀ x ∈ r, x.natAbs ≤ 2) ⟨t6, p6, dA6, [], rfl, fun x h => by cases h⟩ (by omega) (fun _ _ _ _ _ => trivial) ?_ ?_
    · rintro k ys x H7 H8 hk ly ⟨tx, px, dx, r, rfl, br⟩ hD7 ⟨rfl, rfl⟩ Nx go
      refine ⟨rfl, _, rfl, ?_⟩
      refine ⟨pen, 5, _, _, rfl, by decide, by omega, px.same wo_le, fun u H9 s9 p9 c1 c2 => ⟨_, _, rfl, rfl, ?_⟩⟩
      refine go _ _ (s9 _ _ (by rw [wo_at nD2]; exact hD7)) ⟨tx.trans s9.wo, p9.wo (loP gD2) nD2, Dp.up (nw_P s9.wo hpen0) _ dx, r ++ [u - 2], (List.map_append (f := V.int) (l₁ := r) (l₂ := [u - 2])).symm, fun x hx => ?_⟩
      rcases List.mem_append.mp hx with hx | hx
      · exact br x hx
      · rw [List.mem_singleton.mp hx]; omega
    rintro H7 ys ⟨t7, p7, dA7, pw, rfl, bpw⟩ hD7 ly
    have lpw : pw.length = m := by rw [List.length_map] at ly; exact ly
    have t7' := t7.trans (SameP.of wo_le)
    have p7' := p7.same wo_le
    have dA7' := Dp.up (nw_mono wo_le) _ dA7
    refine ⟨_, _, A, m, wd, pw, rfl, Dp.up (nw_le (eH_same _)) _ dA7', R, hm0, by omega, by omega, ⟨D2, rfl, .inl (sqL hD7)⟩, lpw, fun k j x hx => .inl (by have := bpw x (List.mem_of_getElem? hx); omega), fun v8 H8 s8 d8 => ?_⟩
    have t8 := t7'.trans (SameP.of s8)
    have p8 := p7'.same s8
    have dA8 := Dp.up (nw_mono s8) _ dA7'
    have dq8 := Dp.up (conv t7' p7') _ d8
    obtain ⟨q8, rfl, _⟩ := get_ints dq8
    have lb8 : (unitsOf A wd pw).length = wd := by simp [unitsOf, turnM]
    have bb8 : ∀ x ∈ unitsOf A wd pw, x.natAbs ≤ 100000 := fun x hx => by
      have := units_le (m := m) bA bpw x hx
      rw [lpw] at this
      have h6 : m * (2 * 4860) ≤ 6 * (2 * 4860) := Nat.mul_le_mul_right _ hm
      omega
    revert lb8 bb8 dq8
    clear d8 hD7 dA7' t7' p7' s8
    generalize unitsOf A wd pw = b8
    intro dq8 lb8 bb8
    -- way
    refine ⟨_, rfl, ?_⟩
    refine ⟨pen, 3, _, _, rfl, by decide, by omega, p8, fun way H9 s9 p9 c1 c2 => ?_⟩
    have t9 := t8.trans s9
    have dA9 := Dp.up (nw_P s9 hpen0) _ dA8
    have dq9 := Dp.up (nw_P s9 hpen0) _ dq8
    have p9' := p9.mono (show 300 * i + 1 + 1 + 1 + 200 + m + 1 ≤ 300 * i + 220 by omega)
    clear dA8 dq8 s9 t8 p8 p9
    dsimp only [gName]
    refine seq_cut (fun σ H' => ∃ (q : Addr) (b : List Int), σ = [some (.ref sa), some (.ref pen), some (.int (0 + (i : Int))), some (.int (m : Int)), some (.int (wd : Int)), some (.ref a), some (.ref q), none, some (.int way), none, y10, none, y12, none, none, none] ∧ SameP pen G0 H' ∧ PenAt K (wo G0 pen) H' pen (300 * i + 250) ∧ Dp K (nw eH G0 H') (.ref a) (dLT A) ∧ Dp K (nw eH G0 H') (.ref q) (dI b) ∧ b.length = wd ∧ ∀ x ∈ b, x.natAbs ≤ 100000) (fun Nx hNx => ?_) ?_
    · refine ⟨_, rfl, rfl, _, rfl, ?_⟩
      by_cases e0 : way = 0
      · rw [decide_eq_true (congrArg V.int e0)]
        refine ⟨_, rfl, wd, rfl, by omega, by omega, fun D3 hD3 => ?_⟩
        obtain ⟨gD3, nD3⟩ := fr t9 p9' hD3
        refine lc_st walk_range hD3 (fun k ys Hx => SameP pen G0 Hx ∧ PenAt K (wo G0 pen) Hx pen (300 * i + 220 + k) ∧ Dp K (nw eH G0 Hx) (.ref a) (dLT A) ∧ ∃ r : List Int, ys = iv r ∧ ∀ x ∈ r, x.natAbs ≤ 3) ⟨t9, p9', dA9, [], rfl, fun x h => by cases h⟩ (by omega) (fun _ _ _ _ _ => trivial) ?_ ?_
        · rintro k ys x H10 H11 hk ly ⟨tx, px, dx, r, rfl, br⟩ hD10 ⟨rfl, rfl⟩ Nx go
          refine ⟨rfl, _, rfl, ?_⟩
          refine ⟨pen, 7, _, _, rfl, by decide, by omega, px.same wo_le, fun u H12 s12 p12 c1 c2 => ⟨_, _, rfl, rfl, ?_⟩⟩
          refine go _ _ (s12 _ _ (by rw [wo_at nD3]; exact hD10)) ⟨tx.trans s12.wo, p12.wo (loP gD3) nD3, Dp.up (nw_P s12.wo hpen0) _ dx, r ++ [u - 3], (List.map_append (f := V.int) (l₁ := r) (l₂ := [u - 3])).symm, fun x hx => ?_⟩
          rcases List.mem_append.mp hx with hx | hx
          · exact br x hx
          · rw [List.mem_singleton.mp hx]; omega
        · rintro H10 ys ⟨t10, p10, dA10, r, rfl, br⟩ hD10 ly
          rw [List.length_map] at ly
          exact hNx _ _ ⟨D3, r, rfl, t10.trans (SameP.of wo_le), (p10.same wo_le).mono (by omega), Dp.up (nw_mono wo_le) _ dA10, mk_ints gD3 hD10, ly, fun x hx => by have := br x hx; omega⟩
      · rw [decide_eq_false (fun h => e0 (V.int.inj h))]
        exact hNx _ _ ⟨q8, b8, rfl, t9, p9'.mono (by omega), dA9, dq9, lb8, bb8⟩
    rintro σ2 H10 ⟨q10, b10, rfl, t10, p10, dA10, dq10, lb10, bb10⟩
    refine seq_cut (fun σ H' => ∃ (q : Addr) (b : List Int), σ = [some (.ref sa), some (.ref pen), some (.int (0 + (i : Int))), some (.int (m : Int)), some (.int (wd : Int)), some (.ref a), some (.ref q), none, some (.int way), none, y10, none, y12, none, none, none] ∧ SameP pen G0 H' ∧ PenAt K (wo G0 pen) H' pen (300 * i + 250) ∧ Dp K (nw eH G0 H') (.ref a) (dLT A) ∧ Dp K (nw eH G0 H') (.ref q) (dI b) ∧ b.length = wd ∧ ∀ x ∈ b, x.natAbs ≤ 100000) (fun Nx hNx => ?_) ?_
    · refine ⟨_, rfl, rfl, _, rfl, ?_⟩
      by_cases e1 : way = 1
      · rw [decide_eq_true (congrArg V.int e1)]
        obtain ⟨_, eq, qq⟩ := get_ints (Dp.up (nw_le (eH_same _)) _ dq10)
        cases eq
        refine ⟨_, rfl, q10, rfl, ⟨_, qq⟩, fun D3 hD3 => ?_⟩
        refine lc_keep (n := (iv b10).length) walk_list hD3 (fun j => decide ((b10.getD j 0).fmod 2 ≠ 0)) (fun j v _ => v = .int (b10.getD j 0)) (fun _ _ _ _ _ e => e) (by rw [List.length_map]; omega) (fun _ s => s.seq qq) ?_ ?_
        · rintro j x H11 H12 hj s11 hD11 ⟨rfl, ex⟩ N Fx gN gF
          obtain ⟨u, hu, rfl⟩ := iv_get ex
          have eu : b10.getD j 0 = u := by rw [List.getD_eq_getElem?_getD, hu]; rfl
          rw [eu] at gN gF
          refine ⟨rfl, _, rfl, .inl ⟨_, rfl, _, _, rfl, rfl, by show (2 : Int) ≠ 0; decide, rfl, _, rfl, ?_⟩⟩
          by_cases e2 : u.fmod 2 = 0
          · rw [decide_eq_true (congrArg V.int e2)]
            exact gF (by simp [e2]) _ (Same.refl _)
          · rw [decide_eq_false (fun h => e2 (V.int.inj h))]
            exact ⟨_, rfl, gN (by simp [e2]) _ _ (Same.refl _) rfl⟩
        intro H11 ys s11 f1 f2 f3
        obtain ⟨r, rfl⟩ := ints_of (ys := ys) fun j v hv => by
          obtain ⟨_, _, h⟩ := f3 j v hv
          exact ⟨_, h⟩
        refine ⟨by show 0 ≤ sizeLine; decide, fun z0 hz0 => ?_⟩
        have sz := same_new (o := .lst []) hz0
        refine ⟨dI r, .list [], .lst (sqL (sz _ _ f1)) (DpAll.ints _), .lst (sqL upd_same) .nil, shaped_dI _, rfl, _, rfl, ?_⟩
        have s12 := s11.trans sz
        revert s12
        generalize upd H11 z0 (.lst []) = H12
        intro s12
        have t12 := t10.trans (SameP.of s12)
        have p12 := p10.same s12
        have dA12 := Dp.up (nw_mono s12) _ dA10
        have dq12 := Dp.up (nw_mono s12) _ dq10
        cases PyData.eqv (dI r) (.list []) with
        | false => exact hNx _ _ ⟨q10, b10, rfl, t12, p12, dA12, dq12, lb10, bb10⟩
        | true =>
          have qq12 := s12.seq qq
          refine ⟨_, rfl, q10, rfl, ⟨_, qq12⟩, fun D4 hD4 => ?_⟩
          obtain ⟨gD4, nD4⟩ := fr t12 p12 hD4
          refine lc_map walk_list hD4 (fun j v _ => ∃ u, b10[j]? = some u ∧ v = .int (u.fdiv 2)) (fun _ _ _ _ _ e => e) (by rw [List.length_map]; omega) (fun _ s => s.seq qq12) ?_ ?_
          · rintro j x H13 H14 hj s13 hD13 ⟨rfl, ex⟩ N go
            obtain ⟨u, hu, rfl⟩ := iv_get ex
            exact ⟨rfl, _, rfl, _, _, rfl, rfl, by show (2 : Int) ≠ 0; decide, go _ _ (Same.refl _) ⟨u, hu, rfl⟩⟩
          · intro H13 ws s13 g1 g2 g3
            have ew : ws = iv (b10.map fun u => u.fdiv 2) := ext_of (by rw [g2]; simp) fun j y z hy hz => by
              obtain ⟨u, hu, rfl⟩ := g3 j y hy
              rw [List.getElem?_map, List.getElem?_map, hu] at hz
              exact Option.some.inj hz
            subst ew
            refine hNx _ _ ⟨D4, b10.map fun u => u.fdiv 2, rfl, t12.trans (SameP.of s13), p12.same s13, Dp.up (nw_mono s13) _ dA12, mk_ints gD4 g1, by rw [List.length_map, lb10], fun x hx => ?_⟩
            obtain ⟨u, hu, rfl⟩ := List.mem_map.mp hx
            have := bb10 u hu
            rw [Int.fdiv_eq_ediv_of_nonneg _ (by decide)]
            omega
      · rw [decide_eq_false (fun h => e1 (V.int.inj h))]
        exact hNx _ _ ⟨q10, b10, rfl, t10, p10, dA10, dq10, lb10, bb10⟩
    clear dq10 dA10 p10 t10 bb10 lb10
    rintro σ3 H11 ⟨q, b, rfl, t11, p11, dA11, dq11, lb, bb⟩
    obtain ⟨_, xs, ea, qS, dxs⟩ := Dp.lstI dA11
    cases ea
    have up11 : ∀ {p : Addr} {ys : List V}, SqL K (nw eH G0 H11) p ys → SqL K H11 p ys := fun h => (nw_le (eH_same _)).seq h
    have hS : SqL K H11 a xs := up11 qS
    have lA : A.length = m := R.1
    have lxs : xs.length = m := by rw [DpAll.len dxs, List.length_map, lA]
    have row : ∀ i, i < m → ∃ p, xs[i]? = some (.ref p) ∧ SqT K H11 p (iv (A.getD i [])) := fun i hi => by
      obtain ⟨v, h1, h2⟩ := DpAll.get (i := i) (d := dTI (A.getD i [])) dxs (by rw [List.getElem?_map, getD_at (by rw [lA]; exact hi)]; rfl)
      obtain ⟨p, e, h3⟩ := get_tup (Dp.up (nw_le (eH_same _)) _ h2)
      exact ⟨p, by rw [h1, e], h3⟩
    -- the exponents in one of three forms
    refine ⟨_, rfl, _, rfl, _, rfl, a, xs, rfl, .inl ⟨hS, fun Z hZ => ?_⟩⟩
    have sZ := same_new (o := .tup xs) hZ
    obtain ⟨gZ, nZ⟩ := fr t11 p11 hZ
    have t12 := t11.trans (SameP.of sZ)
    have p12 := p11.same sZ
    have dZ : Dp K (nw eH G0 (upd H11 Z (.tup xs))) (.ref Z) (dT A) := .tup (sqT (by rw [nw_new gZ]; exact upd_same)) (DpAll.up (nw_mono sZ) _ dxs)
    have dA12 := Dp.up (nw_mono sZ) _ dA11
    have dq12 := Dp.up (nw_mono sZ) _ dq11
    have hS12 := sZ.seq hS
    have row12 : ∀ i, i < m → ∃ p, xs[i]? = some (.ref p) ∧ SqT K (upd H11 Z (.tup xs)) p (iv (A.getD i [])) := fun i hi => by
      obtain ⟨p, h1, h2⟩ := row i hi
      exact ⟨p, h1, Same.seqT sZ h2⟩
    revert t12 p12 dZ dA12 dq12 hS12 row12
    generalize upd H11 Z (.tup xs) = H12
    intro t12 p12 dZ dA12 dq12 hS12 row12
    refine ⟨_, rfl, a, rfl, ⟨xs, hS12⟩, fun D3 hD3 => ?_⟩
    obtain ⟨gD3, nD3⟩ := fr t12 p12 hD3
    refine lc_map (n := xs.length) walk_list hD3 (fun i v G => i < m ∧ Dp K (nw eH H12 G) v (dI (A.getD i []))) (fun i v G G' s d => ⟨d.1, Dp.up (nw_mono s) _ d.2⟩) (by omega) (fun _ s2 => s2.seq hS12) ?_ ?_
    · rintro i x H2 H3 hi s2 hD2 ⟨rfl, ex⟩ N go
      have him : i < m := by omega
      obtain ⟨p, gp, qp⟩ := row12 i him
      cases ex.symm.trans gp
      refine ⟨rfl, _, rfl, p, _, rfl, .inr (Same.seqT s2 qp), fun Z hZ => go _ _ (same_new hZ) ⟨him, mk_ints (s2.free hZ) ?_⟩⟩
      rw [wo_at (ne_new hD2 hZ), upd_same]
    intro H13 ys s13 f1 f2 f3
    have t13 := t12.trans (SameP.of s13)
    have p13 := p12.same s13
    have dL : Dp K (nw eH G0 H13) (.ref D3) (dM A) := .lst (sqL (by rw [nw_new gD3]; exact f1)) (DpAll.of (by rw [f2, List.length_map, lxs, lA]) fun j v d hv hd => by
      obtain ⟨hj, d2⟩ := f3 j v hv
      rw [List.getElem?_map, getD_at (by omega)] at hd
      cases hd
      exact Dp.up (conv t12 p12) _ (Dp.up (nw_mono wo_le) _ d2))
    refine ⟨by show 3 ≤ sizeLine; decide, fun LD hLD => ?_⟩
    obtain ⟨gLD, nLD⟩ := fr t13 p13 hLD
    have sL := same_new (o := .lst [.ref a, .ref Z, .ref D3]) hLD
    have t14 := t13.trans (SameP.of sL)
    have p14 := p13.same sL
    have up14 : Same (nw eH G0 H12) (nw eH G0 (upd H13 LD (.lst [.ref a, .ref Z, .ref D3]))) := nw_mono (s13.trans sL)
    refine ⟨pen, LD, [.ref a, .ref Z, .ref D3], _, _, rfl, sqL (by rw [wo_at nLD, upd_same]), by show 0 < 3; decide, by omega, p14, fun ix v H15 hv s15 p15 => ?_⟩
    have t15 := t14.trans s15
    have up15 : Same (nw eH G0 H12) (nw eH G0 H15) := up14.trans (nw_P s15 hpen0)
    have hrows : ∃ d, Dp K (nw eH G0 H15) v d ∧ ∀ H', Dp K H' v d → RowsS K H' v A := by
      have hmem := List.mem_of_getElem? hv
      simp only [List.mem_cons, List.not_mem_nil, or_false] at hmem
      rcases hmem with rfl | rfl | rfl
      · exact ⟨_, Dp.up up15 _ dA12, fun _ h => RowsS.lt h⟩
      · exact ⟨_, Dp.up up15 _ dZ, fun _ h => RowsS.tup h⟩
      · exact ⟨_, Dp.up (nw_P s15 hpen0) _ (Dp.up (nw_mono sL) _ dL), fun _ h => RowsS.list h⟩
    have dA15 := Dp.up up15 _ dA12
    have dq15 := Dp.up up15 _ dq12
    have p15' := p15.mono (show 300 * i + 250 + 1 ≤ 300 * i + 260 by omega)
    clear hv hLD sL p14 up14 s15 up15 dL f1 f2 f3 dZ dA12 dq12 dA11 dq11 p15 hS hS12 row12 t14 t13 p13 p12 t12 sZ p11 qS dxs row hZ up11
    dsimp only [gName]
    -- the result in one of two forms
    obtain ⟨_, eq, qq⟩ := get_ints (Dp.up (nw_le (eH_same _)) _ dq15)
    cases eq
    refine ⟨_, rfl, _, rfl, _, rfl, _, rfl, q, _, rfl, .inl ⟨qq, fun Z2 hZ2 => ?_⟩⟩
    obtain ⟨gZ2, nZ2⟩ := fr t15 p15' hZ2
    have sZ2 := same_new (o := .tup (iv b)) hZ2
    have dZ2 : Dp K (nw eH G0 (upd H15 Z2 (.tup (iv b)))) (.ref Z2) (dTI b) := .tup (sqT (by rw [nw_new gZ2]; exact upd_same)) (DpAll.ints _)
    have t16 := t15.trans (SameP.of sZ2)
    have p16 := p15'.same sZ2
    refine ⟨by show 2 ≤ sizeLine; decide, fun LQ hLQ => ?_⟩
    obtain ⟨gLQ, nLQ⟩ := fr t16 p16 hLQ
    have sQ := same_new (o := .lst [.ref q, .ref Z2]) hLQ
    have t17 := t16.trans (SameP.of sQ)
    have p17 := p16.same sQ
    have up17 : Same (nw eH G0 H15) (nw eH G0 (upd (upd H15 Z2 (.tup (iv b))) LQ (.lst [.ref q, .ref Z2]))) := nw_mono (sZ2.trans sQ)
    have dZ17 := Dp.up (nw_mono (G := eH) (H0 := G0) sQ) _ dZ2
    refine ⟨pen, LQ, [.ref q, .ref Z2], _, _, rfl, sqL (by rw [wo_at nLQ, upd_same]), by show 0 < 2; decide, by omega, p17, fun ix2 u H18 hu s18 p18 => ?_⟩
    have t18 := t17.trans s18
    have up18 : Same (nw eH G0 H15) (nw eH G0 H18) := up17.trans (nw_P s18 hpen0)
    have hints : IntsS K H18 u b := by
      have hmem := List.mem_of_getElem? hu
      simp only [List.mem_cons, List.not_mem_nil, or_false] at hmem
      rcases hmem with rfl | rfl
      · obtain ⟨_, e, h⟩ := get_ints (Dp.up (nw_le (eH_same _)) _ (Dp.up up18 _ dq15))
        cases e
        exact ⟨q, rfl, .inl h⟩
      · obtain ⟨p, e, h⟩ := get_tup (Dp.up (nw_le (eH_same _)) _ (Dp.up (nw_P s18 hpen0) _ dZ17))
        exact ⟨p, e, .inr h⟩
    have hrows18 : RowsS K H18 v A := by
      obtain ⟨d, h1, h2⟩ := hrows
      exact h2 _ (Dp.up (nw_le (eH_same _)) _ (Dp.up up18 _ h1))
    have dA18 := Dp.up up18 _ dA15
    have dq18 := Dp.up up18 _ dq15
    have p18' := p18.mono (show 300 * i + 260 + 1 ≤ 300 * (i + 1) by omega)
    clear hu hLQ sQ p17 up17 s18 up18 dZ17 dZ2 hrows dA15 dq15 p18 t17 p16 t16 sZ2 hZ2 qq p15' t15
    obtain ⟨rk1, rk2, e, Zc, Lc, he, hH, hZc, hLc⟩ := PL m wd A b hm0 hm hw0 hw R bA lb bb
    have eA : ∀ i j, (ent A i j).natAbs < 2 ^ 64 := fun i j => by
      unfold ent
      rcases Nat.lt_or_ge i A.length with h1 | h1
      · rcases Nat.lt_or_ge j (A.getD i []).length with h2 | h2
        · have := bA (A.getD i []) (by rw [show A.getD i [] = A[i] by simp [List.getD_eq_getElem?_getD, h1]]; exact List.getElem_mem h1) ((A.getD i []).getD j 0) (by rw [show (A.getD i []).getD j 0 = (A.getD i [])[j] by rw [List.getD_eq_getElem?_getD (l := A.getD i []), List.getElem?_eq_getElem h2]; rfl]; exact List.getElem_mem h2)
          omega
        · rw [List.getD_eq_getElem?_getD (l := A.getD i []), List.getElem?_eq_none h2]; decide
      · rw [List.getD_eq_getElem?_getD (l := A), List.getElem?_eq_none h1]
        show ((([] : List Int)).getD j 0).natAbs < _
        simp
    have eb : ∀ x ∈ b, x.natAbs < 2 ^ 64 := fun x hx => by have := bb x hx; omega
    refine ⟨v, u, A, b, m, wd, e, Zc, Lc, rfl, hrows18, hints, R, lb, hm0, by omega, hw0, by omega, he, hH, fun c x dx vc H19 s19 hzc hx dvc => ?_, fun ls x dx a1 a2 a3 a4 H19 s19 hls ll hx d1 d2 d3 d4 => ?_⟩
    · obtain ⟨h1, h2, h3, h4⟩ := hZc c hzc
      obtain ⟨_, e, qq⟩ := get_ints (Dp.up (nw_le (eH_same _)) _ dq18)
      cases e
      refine ⟨_, rfl, _, rfl, _, rfl, ?_⟩
      refine ⟨.ref a, q, x, dx, A, b, m, wd, rfl, Dp.up ((nw_le (eH_same _)).trans s19) _ dA18, s19.seq qq, R, lb, hm0, by omega, by omega, rk1, rk2, eA, eb, .inl ⟨h1, vc, c, hx, dvc, h2, h3, h4⟩, fun H20 s20 => ⟨_, rfl, ?_⟩⟩
      exact ⟨_, _, _, _, _, _, _, _, rfl, t18.trans (SameP.of (s19.trans s20)), p18'.same (s19.trans s20)⟩
    · obtain ⟨h1, h2⟩ := hLc ls hls
      obtain ⟨_, e, qq⟩ := get_ints (Dp.up (nw_le (eH_same _)) _ dq18)
      cases e
      refine ⟨_, rfl, _, rfl, _, rfl, ?_⟩
      refine ⟨.ref a, q, x, dx, A, b, m, wd, rfl, Dp.up ((nw_le (eH_same _)).trans s19) _ dA18, s19.seq qq, R, lb, hm0, by omega, by omega, rk1, rk2, eA, eb, .inr ⟨h1, a1, a2, a3, a4, ls, hx, d1, d2, d3, d4, ll, h2⟩, fun H20 s20 => ⟨_, rfl, ?_⟩⟩
      exact ⟨_, _, _, _, _, _, _, _, rfl, t18.trans (SameP.of (s19.trans s20)), p18'.same (s19.trans s20)⟩
  · rintro σ H1 ⟨y2, y3, y4, y5, y6, y8, y10, y12, rfl, s1, p1⟩
    clear s1 p1 p0 hpen0 fp0 s0 hS h_law_pen h_law_draw h_law_pick h_law_exponents h_law_unit_of h_hangs h_law_right
    have tup : ∀ {H : Hp} {p : Addr} {xs : List V} {ds : List PyData}, H p = none → DpAll K H xs ds → Dp K (upd H p (.tup xs)) (.ref p) (.tuple ds) := fun hp d => .tup (sqT upd_same) (DpAll.up (same_new hp) _ d)
    have mkS : ∀ {H : Hp} {x dx C : Addr} {o : HO}, H x = none → H dx = none → dx ≠ x → Same H (upd (upd (upd H dx (.own x)) x (.ins C dx [])) x o) := fun hx hdx nx =>
      same_mut ((same_new hdx).trans (same_new (by rw [upd_ne (Ne.symm nx)]; exact hx))) hx
    refine ⟨by show 2 ≤ sizeLine; decide, fun p1 hp1 => ?_⟩
    have e1 := tup (xs := [.int 1, .int 0]) hp1 (.cons (.int 1) (.cons (.int 0) .nil))
    revert e1
    generalize upd H1 p1 (.tup [.int 1, .int 0]) = H2
    intro e1
    intro x1 dx1 hx1 hdx1 nx1
    refine ⟨x1, dx1, .ref p1, rfl, upd_same, rfl, ?_⟩
    have s1 := mkS (C := CZ) (o := .ins CZ dx1 [("change", .ref p1)]) hx1 hdx1 nx1
    have o1 : upd (upd (upd H2 dx1 (.own x1)) x1 (.ins CZ dx1 [])) x1 (.ins CZ dx1 [("change", .ref p1)]) x1 = some (.ins CZ dx1 [("change", .ref p1)]) := upd_same
    replace e1 := Dp.up s1 _ e1
    revert o1 e1
    generalize upd (upd (upd H2 dx1 (.own x1)) x1 (.ins CZ dx1 [])) x1 (.ins CZ dx1 [("change", .ref p1)]) = H3
    intro o1 e1
    refine ⟨by show 1 ≤ sizeLine; decide, fun p2 hp2 => ?_⟩
    have s2 := same_new (o := .tup [.str (Str.ofString "fixed")]) hp2
    replace o1 := s2 _ _ o1
    replace e1 := Dp.up s2 _ e1
    have e2 := tup (xs := [.str (Str.ofString "fixed")]) hp2 (.cons (.str _) .nil)
    revert o1 e1 e2
    generalize upd H3 p2 (.tup [.str (Str.ofString "fixed")]) = H4
    intro o1 e1 e2
    refine ⟨by show 2 ≤ sizeLine; decide, fun p3 hp3 => ?_⟩
    have s3 := same_new (o := .tup [.int 1, .int 2]) hp3
    replace o1 := s3 _ _ o1
    replace e1 := Dp.up s3 _ e1
    replace e2 := Dp.up s3 _ e2
    have e3 := tup (xs := [.int 1, .int 2]) hp3 (.cons (.int 1) (.cons (.int 2) .nil))
    revert o1 e1 e2 e3
    generalize upd H4 p3 (.tup [.int 1, .int 2]) = H5
    intro o1 e1 e2 e3
    refine ⟨by show 1 ≤ sizeLine; decide, fun p4 hp4 => ?_⟩
    have s4 := same_new (o := .tup [.ref p3]) hp4
    replace o1 := s4 _ _ o1
    replace e1 := Dp.up s4 _ e1
    replace e2 := Dp.up s4 _ e2
    have e4 := tup (xs := [.ref p3]) hp4 (.cons e3 .nil)
    clear e3
    revert o1 e1 e2 e4
    generalize upd H5 p4 (.tup [.ref p3]) = H6
    intro o1 e1 e2 e4
    refine ⟨by show 1 ≤ sizeLine; decide, fun p5 hp5 => ?_⟩
    have s5 := same_new (o := .tup [.non]) hp5
    replace o1 := s5 _ _ o1
    replace e1 := Dp.up s5 _ e1
    replace e2 := Dp.up s5 _ e2
    replace e4 := Dp.up s5 _ e4
    have e5 := tup (xs := [.non]) hp5 (.cons .non .nil)
    revert o1 e1 e2 e4 e5
    generalize upd H6 p5 (.tup [.non]) = H7
    intro o1 e1 e2 e4 e5
    refine ⟨by show 1 ≤ sizeLine; decide, fun p6 hp6 => ?_⟩
    have s6 := same_new (o := .tup [.int 3]) hp6
    replace o1 := s6 _ _ o1
    replace e1 := Dp.up s6 _ e1
    replace e2 := Dp.up s6 _ e2
    replace e4 := Dp.up s6 _ e4
    replace e5 := Dp.up s6 _ e5
    have e6 := tup (xs := [.int 3]) hp6 (.cons (.int 3) .nil)
    revert o1 e1 e2 e4 e5 e6
    generalize upd H7 p6 (.tup [.int 3]) = H8
    intro o1 e1 e2 e4 e5 e6
    refine ⟨by show 1 ≤ sizeLine; decide, fun p7 hp7 => ?_⟩
    have s7 := same_new (o := .tup [.ref p6]) hp7
    replace o1 := s7 _ _ o1
    replace e1 := Dp.up s7 _ e1
    replace e2 := Dp.up s7 _ e2
    replace e4 := Dp.up s7 _ e4
    replace e5 := Dp.up s7 _ e5
    have e7 := tup (xs := [.ref p6]) hp7 (.cons e6 .nil)
    clear e6
    revert o1 e1 e2 e4 e5 e7
    generalize upd H8 p7 (.tup [.ref p6]) = H9
    intro o1 e1 e2 e4 e5 e7
    intro x2 dx2 hx2 hdx2 nx2
    refine ⟨x2, dx2, .ref p2, .ref p4, .ref p5, .ref p7, rfl, upd_same, rfl, ?_⟩
    have s8 := mkS (C := CH) (o := .ins CH dx2 (hflds (.ref p2) (.ref p4) (.ref p5) (.ref p7))) hx2 hdx2 nx2
    have o2 : upd (upd (upd H9 dx2 (.own x2)) x2 (.ins CH dx2 [])) x2 (.ins CH dx2 (hflds (.ref p2) (.ref p4) (.ref p5) (.ref p7))) x2 = some (.ins CH dx2 (hflds (.ref p2) (.ref p4) (.ref p5) (.ref p7))) := upd_same
    replace o1 := s8 _ _ o1
    have ee := DpAll.cons (Dp.up s8 _ e1) (.cons (Dp.up s8 _ e2) (.cons (Dp.up s8 _ e4) (.cons (Dp.up s8 _ e5) (.cons (Dp.up s8 _ e7) .nil))))
    clear e1 e2 e4 e5 e7 s1 s2 s3 s4 s5 s6 s7 s8
    revert o1 o2 ee
    generalize upd (upd (upd H9 dx2 (.own x2)) x2 (.ins CH dx2 [])) x2 (.ins CH dx2 (hflds (.ref p2) (.ref p4) (.ref p5) (.ref p7))) = H10
    intro o2 o1 ee
    refine ⟨_, _, rfl, ?_⟩
    refine ⟨_, rfl, x1, CZ, dx1, _, _, rfl, o1, cz, nz, rfl, _, rfl, x2, CH, dx2, _, _, rfl, o2, c.cls, c.kinds, rfl, _, rfl, x2, CH, dx2, _, _, rfl, o2, c.cls, c.powers, rfl, _, rfl, x2, CH, dx2, _, _, rfl, o2, c.cls, c.groups, rfl, _, rfl, x2, CH, dx2, _, _, rfl, o2, c.cls, c.changes, rfl, by show 5 ≤ sizeLine; decide, fun p8 hp8 => ?_⟩
    have d8 := tup hp8 ee
    clear ee o1 o2
    dsimp only [gName]
    revert d8
    generalize upd H10 p8 _ = H11
    intro d8
    refine ⟨_, rfl, ?_⟩
    refine ⟨by show 2 ≤ sizeLine; decide, fun r1 hr1 => ?_⟩
    have sr1 := same_new (o := .tup [.int 1, .int 0]) hr1
    replace d8 := Dp.up sr1 _ d8
    have dr1 := tup (xs := [.int 1, .int 0]) hr1 (.cons (.int 1) (.cons (.int 0) .nil))
    clear sr1
    revert d8 dr1
    generalize upd H11 r1 (.tup [.int 1, .int 0]) = H12
    intro d8 dr1
    refine ⟨by show 1 ≤ sizeLine; decide, fun r2 hr2 => ?_⟩
    have sr2 := same_new (o := .tup [.str (Str.ofString "fixed")]) hr2
    replace d8 := Dp.up sr2 _ d8
    replace dr1 := Dp.up sr2 _ dr1
    have dr2 := tup (xs := [.str (Str.ofString "fixed")]) hr2 (.cons (.str _) .nil)
    clear sr2
    revert d8 dr1 dr2
    generalize upd H12 r2 (.tup [.str (Str.ofString "fixed")]) = H13
    intro d8 dr1 dr2
    refine ⟨by show 2 ≤ sizeLine; decide, fun r3 hr3 => ?_⟩
    have sr3 := same_new (o := .tup [.int 1, .int 2]) hr3
    replace d8 := Dp.up sr3 _ d8
    replace dr1 := Dp.up sr3 _ dr1
    replace dr2 := Dp.up sr3 _ dr2
    have dr3 := tup (xs := [.int 1, .int 2]) hr3 (.cons (.int 1) (.cons (.int 2) .nil))
    clear sr3
    revert d8 dr1 dr2 dr3
    generalize upd H13 r3 (.tup [.int 1, .int 2]) = H14
    intro d8 dr1 dr2 dr3
    refine ⟨by show 1 ≤ sizeLine; decide, fun r4 hr4 => ?_⟩
    have sr4 := same_new (o := .tup [.ref r3]) hr4
    replace d8 := Dp.up sr4 _ d8
    replace dr1 := Dp.up sr4 _ dr1
    replace dr2 := Dp.up sr4 _ dr2
    have dr4 := tup (xs := [.ref r3]) hr4 (.cons dr3 .nil)
    clear dr3
    clear sr4
    revert d8 dr1 dr2 dr4
    generalize upd H14 r4 (.tup [.ref r3]) = H15
    intro d8 dr1 dr2 dr4
    refine ⟨by show 1 ≤ sizeLine; decide, fun r5 hr5 => ?_⟩
    have sr5 := same_new (o := .tup [.non]) hr5
    replace d8 := Dp.up sr5 _ d8
    replace dr1 := Dp.up sr5 _ dr1
    replace dr2 := Dp.up sr5 _ dr2
    replace dr4 := Dp.up sr5 _ dr4
    have dr5 := tup (xs := [.non]) hr5 (.cons .non .nil)
    clear sr5
    revert d8 dr1 dr2 dr4 dr5
    generalize upd H15 r5 (.tup [.non]) = H16
    intro d8 dr1 dr2 dr4 dr5
    refine ⟨by show 1 ≤ sizeLine; decide, fun r6 hr6 => ?_⟩
    have sr6 := same_new (o := .tup [.int 3]) hr6
    replace d8 := Dp.up sr6 _ d8
    replace dr1 := Dp.up sr6 _ dr1
    replace dr2 := Dp.up sr6 _ dr2
    replace dr4 := Dp.up sr6 _ dr4
    replace dr5 := Dp.up sr6 _ dr5
    have dr6 := tup (xs := [.int 3]) hr6 (.cons (.int 3) .nil)
    clear sr6
    revert d8 dr1 dr2 dr4 dr5 dr6
    generalize upd H16 r6 (.tup [.int 3]) = H17
    intro d8 dr1 dr2 dr4 dr5 dr6
    refine ⟨by show 1 ≤ sizeLine; decide, fun r7 hr7 => ?_⟩
    have sr7 := same_new (o := .tup [.ref r6]) hr7
    replace d8 := Dp.up sr7 _ d8
    replace dr1 := Dp.up sr7 _ dr1
    replace dr2 := Dp.up sr7 _ dr2
    replace dr4 := Dp.up sr7 _ dr4
    replace dr5 := Dp.up sr7 _ dr5
    have dr7 := tup (xs := [.ref r6]) hr7 (.cons dr6 .nil)
    clear dr6
    clear sr7
    revert d8 dr1 dr2 dr4 dr5 dr7
    generalize upd H17 r7 (.tup [.ref r6]) = H18
    intro d8 dr1 dr2 dr4 dr5 dr7
    refine ⟨by show 5 ≤ sizeLine; decide, fun r8 hr8 => ?_⟩
    have sr8 := same_new (o := .tup [.ref r1, .ref r2, .ref r4, .ref r5, .ref r7]) hr8
    replace d8 := Dp.up sr8 _ d8
    have dr8 := tup (xs := [.ref r1, .ref r2, .ref r4, .ref r5, .ref r7]) hr8 (.cons dr1 (.cons dr2 (.cons dr4 (.cons dr5 (.cons dr7 .nil)))))
    clear dr1
    clear dr2
    clear dr4
    clear dr5
    clear dr7
    clear sr8
    revert d8 dr8
    generalize upd H18 r8 (.tup [.ref r1, .ref r2, .ref r4, .ref r5, .ref r7]) = H19
    intro d8 dr8
    have sok : PyData.strOk (Str.ofString "fixed") = true := by decide +kernel
    have sh : SeqAt.shaped (.tuple [.tuple [.int 1, .int 0], .tuple [.str (Str.ofString "fixed")], .tuple [.tuple [.int 1, .int 2]], .tuple [.none], .tuple [.tuple [.int 3]]]) = true := by simp [SeqAt.shaped, PyData.canLay0, PyData.canLayAll0, PyData.depth, PyData.depthAll, sok]
    refine ⟨_, _, d8, dr8, sh, sh, ?_⟩
    have ev : PyData.eqv (.tuple [.tuple [.int 1, .int 0], .tuple [.str (Str.ofString "fixed")], .tuple [.tuple [.int 1, .int 2]], .tuple [.none], .tuple [.tuple [.int 3]]]) (.tuple [.tuple [.int 1, .int 0], .tuple [.str (Str.ofString "fixed")], .tuple [.tuple [.int 1, .int 2]], .tuple [.none], .tuple [.tuple [.int 3]]]) = true := by simp [PyData.eqv, PyData.eqvAll]
    rw [ev]
    exact fin _
end
end K51W

set_option maxHeartbeats 0
/-! The end: what the top leaves, told by names; all promises joined; the law. -/
namespace K51W
open PySem PySem.Spec PyProof.Rows L2 He K51
/-! ### objects of the boot that the division of great ints leans on -/
def hereB (K : PySem.W.Frag) (a : Addr) : Bool := (K.lookup a).isSome
/-- what isinstance asks of a class -/
def icB (K : PySem.W.Frag) (x : Str) : Bool :=
  (eqO (PySem.W.findIn K (.ref (ga K x)) "__class__") (some (some (.builtin "object.__class__"))) && decide (PySem.W.mroIn K (ga K x) (.type "object") = some true)) && decide (PySem.W.kitOne K (.ref (ga K x)) (.ref (ga K x)) = some true)
def icC (K : PySem.W.Frag) : Bool := eqO (PySem.W.specialIn K (.builtin "object.__class__") "__get__") (some (some (.builtin "getset_descriptor.__get__"))) && decide (PySem.W.takesIn K (.builtin "object.__class__") = some true)
def mainB (K : PySem.W.Frag) : Bool := match PySem.W.nsIn K mainGlobals "__builtins__" with
  | some (some (.ref b)) => hereB K b
  | _ => false
def moreB (K : PySem.W.Frag) : Bool := (((hereB K cStatics && hereB K sysModules) && (hereB K builtinsNs && hereB K mainGlobals)) && mainB K) && ((icB K "Zero" && icB K "Hangs") && icC K)
theorem moved {K : PySem.W.Frag} {h base : Heap} (X : K.In h) (Xb : K.In base) {a : Addr} (e : hereB K a = true) {o : Obj} (ho : h.get? a = some o) : base.get? a = some o := by
  cases q : K.lookup a with
  | none =>
    unfold hereB at e
    rw [q] at e
    cases e
  | some u =>
    have e1 := X a u q
    rw [ho] at e1
    cases e1
    exact Xb a o q
theorem moved_ns {K : PySem.W.Frag} {h base : Heap} (X : K.In h) (Xb : K.In base) {a : Addr} (e : hereB K a = true) {m : Str → Option Value} (N : h.Ns a m) : base.Ns a m := by
  obtain ⟨o, es, ep, ho, r⟩ := N
  exact ⟨o, es, ep, moved X Xb e ho, r⟩
theorem seer_base {K : PySem.W.Frag} {h base : Heap} (X : K.In h) (Xb : K.In base) (e : moreB K = true) (N : h.NoSeer) : base.NoSeer := by
  obtain ⟨e1, _⟩ := ba e
  obtain ⟨e2, e3⟩ := ba e1
  obtain ⟨e4, e5⟩ := ba e2
  obtain ⟨s1, s2⟩ := ba e4
  obtain ⟨s3, s4⟩ := ba e5
  obtain ⟨⟨mc, a1, a2⟩, ⟨mm, b1, b2⟩, ⟨mb, c1, c2⟩, ⟨mg, bm, ob, d1, d2, d3, d4⟩⟩ := N
  refine ⟨⟨mc, moved_ns X Xb s1 a1, a2⟩, ⟨mm, moved_ns X Xb s2 b1, b2⟩, ⟨mb, moved_ns X Xb s3 c1, c2⟩, ⟨mg, bm, ob, moved_ns X Xb s4 d1, d2, moved X Xb ?_ d3, d4⟩⟩
  unfold mainB at e3
  cases q : PySem.W.nsIn K mainGlobals "__builtins__" with
  | none => rw [q] at e3; cases e3
  | some r =>
    cases r with
    | none => rw [q] at e3; cases e3
    | some v =>
      have z := PySem.W.mg_of X d1 q
      rw [d2] at z
      cases z
      rw [q] at e3
      exact e3
theorem ic_ok {K : PySem.W.Frag} (e : moreB K = true) (cz : Cls K (ga K "Zero")) (ch : Cls K (ga K "Hangs")) : ICl K (ga K "Zero") ∧ ICl K (ga K "Hangs") := by
  obtain ⟨_, e1⟩ := ba e
  obtain ⟨e2, e3⟩ := ba e1
  obtain ⟨z, y⟩ := ba e2
  obtain ⟨g1, g2⟩ := ba e3
  have one : ∀ x, icB K x = true → Cls K (ga K x) → ICl K (ga K x) := fun x h c => by
    obtain ⟨h1, h2⟩ := ba h
    obtain ⟨h3, h4⟩ := ba h1
    exact ⟨c, eqO_ok h3, eqO_ok g1, of_decide_eq_true g2, of_decide_eq_true h4, of_decide_eq_true h2⟩
  exact ⟨one _ z cz, one _ y ch⟩
/-! ### the Hook -/
def addrsB (g : Addr → Option Obj) (n : Nat) : List Addr := cStatics :: sysModules :: builtinsNs :: asD g n
abbrev AlB : Type := AlD × Bool
def seeB (n : Nat) (fa : List Fa) (fn : List DefD) (g : Addr → Option Obj) : AlB := (obsD fa fn (frG g (addrsB g n)), moreB (frG g (addrsB g n)))
def hookB (n : Nat) (fa : List Fa) (fn : List DefD) : PySem.W.Hook where
  α := AlB
  obs := fun s => seeB n fa fn s.heap.get?
  val := fun _ => (valD fn, true)
  says := fun _ h => ∃ K : PySem.W.Frag, K.In h ∧ SaysD fa fn K ∧ moreB K = true
  of := fun _ _ e => ⟨_, frG_in, congrArg (fun z : AlB => z.1) e, congrArg (fun z : AlB => z.2) e⟩
  keeps := fun _ _ _ ⟨K, a, b⟩ k => ⟨K, PySem.W.Frag.In.keeps a k, b⟩
theorem seeB_eq {n : Nat} {fa : List Fa} {fn : List DefD} {g : Addr → Option Obj} {s : Shared} (h : ∀ a, g a = s.heap.get? a) : seeB n fa fn g = (hookB n fa fn).obs s := by
  rw [show g = s.heap.get? from funext h]
  rfl
end K51W
namespace K51W
open PySem PySem.Spec PyProof.Rows L2 He K51
def dd_common_divisor : DefD := ⟨("common_divisor", none), "common_divisor", "common_divisor", defArgs s_common_divisor, defBody s_common_divisor, defScope s_common_divisor, [], []⟩
def dd_lowest : DefD := ⟨("lowest", none), "lowest", "lowest", defArgs s_lowest, defBody s_lowest, defScope s_lowest, [], []⟩
def dd_times : DefD := ⟨("times", none), "times", "times", defArgs s_times, defBody s_times, defScope s_times, [], []⟩
def dd_over : DefD := ⟨("over", none), "over", "over", defArgs s_over, defBody s_over, defScope s_over, [], []⟩
def dd_plus : DefD := ⟨("plus", none), "plus", "plus", defArgs s_plus, defBody s_plus, defScope s_plus, [], []⟩
def dd_nearest : DefD := ⟨("nearest", none), "nearest", "nearest", defArgs s_nearest, defBody s_nearest, defScope s_nearest, [], []⟩
def dd_less_multiple : DefD := ⟨("less_multiple", none), "less_multiple", "less_multiple", defArgs s_less_multiple, defBody s_less_multiple, defScope s_less_multiple, [], []⟩
def dd_identity : DefD := ⟨("identity", none), "identity", "identity", defArgs s_identity, defBody s_identity, defScope s_identity, [], []⟩
def dd_turned : DefD := ⟨("turned", none), "turned", "turned", defArgs s_turned, defBody s_turned, defScope s_turned, [], []⟩
def dd_pairs_of : DefD := ⟨("pairs_of", none), "pairs_of", "pairs_of", defArgs s_pairs_of, defBody s_pairs_of, defScope s_pairs_of, [], []⟩
def dd_common_bottom : DefD := ⟨("common_bottom", none), "common_bottom", "common_bottom", defArgs s_common_bottom, defBody s_common_bottom, defScope s_common_bottom, [], []⟩
def dd_integers : DefD := ⟨("integers", none), "integers", "integers", defArgs s_integers, defBody s_integers, defScope s_integers, [], []⟩
def dd_dot : DefD := ⟨("dot", none), "dot", "dot", defArgs s_dot, defBody s_dot, defScope s_dot, [], []⟩
def dd_smallest_at : DefD := ⟨("smallest_at", none), "smallest_at", "smallest_at", defArgs s_smallest_at, defBody s_smallest_at, defScope s_smallest_at, [], []⟩
def dd_cleared_below : DefD := ⟨("cleared_below", none), "cleared_below", "cleared_below", defArgs s_cleared_below, defBody s_cleared_below, defScope s_cleared_below, [], []⟩
def dd_formed : DefD := ⟨("formed", none), "formed", "formed", defArgs s_formed, defBody s_formed, defScope s_formed, [], []⟩
def dd_hermite_of : DefD := ⟨("hermite_of", none), "hermite_of", "hermite_of", defArgs s_hermite_of, defBody s_hermite_of, defScope s_hermite_of, [], []⟩
def dd_basis_rows : DefD := ⟨("basis_rows", none), "basis_rows", "basis_rows", defArgs s_basis_rows, defBody s_basis_rows, defScope s_basis_rows, [], []⟩
def dd_take_row : DefD := ⟨("Work", some "take_row"), "take_row", "Work.take_row", defArgs s_Work_take_row, defBody s_Work_take_row, defScope s_Work_take_row, [], []⟩
def dd_take_column : DefD := ⟨("Work", some "take_column"), "take_column", "Work.take_column", defArgs s_Work_take_column, defBody s_Work_take_column, defScope s_Work_take_column, [], []⟩
def dd_swap : DefD := ⟨("Work", some "swap"), "swap", "Work.swap", defArgs s_Work_swap, defBody s_Work_swap, defScope s_Work_swap, [], []⟩
def dd_smallest : DefD := ⟨("Work", some "smallest"), "smallest", "Work.smallest", defArgs s_Work_smallest, defBody s_Work_smallest, defScope s_Work_smallest, [], []⟩
def dd_uneven : DefD := ⟨("Work", some "uneven"), "uneven", "Work.uneven", defArgs s_Work_uneven, defBody s_Work_uneven, defScope s_Work_uneven, [], []⟩
def dd_crossed_out : DefD := ⟨("Work", some "crossed_out"), "crossed_out", "Work.crossed_out", defArgs s_Work_crossed_out, defBody s_Work_crossed_out, defScope s_Work_crossed_out, [], []⟩
def dd_settle : DefD := ⟨("Work", some "settle"), "settle", "Work.settle", defArgs s_Work_settle, defBody s_Work_settle, defScope s_Work_settle, [], []⟩
def dd_Work_init : DefD := ⟨("Work", some "__init__"), "__init__", "Work.__init__", defArgs s_Work_init, defBody s_Work_init, defScope s_Work_init, [], []⟩
def dd_smith_of : DefD := ⟨("smith_of", none), "smith_of", "smith_of", defArgs s_smith_of, defBody s_smith_of, defScope s_smith_of, [], []⟩
def dd_kernel_of : DefD := ⟨("kernel_of", none), "kernel_of", "kernel_of", defArgs s_kernel_of, defBody s_kernel_of, defScope s_kernel_of, [], []⟩
def dd_Equations_init : DefD := ⟨("Equations", some "__init__"), "__init__", "Equations.__init__", defArgs s_Equations_init, defBody s_Equations_init, defScope s_Equations_init, [], []⟩
def dd_left_over : DefD := ⟨("Equations", some "left_over"), "left_over", "Equations.left_over", defArgs s_Equations_left_over, defBody s_Equations_left_over, defScope s_Equations_left_over, [], []⟩
def dd_answer_to : DefD := ⟨("Equations", some "answer_to"), "answer_to", "Equations.answer_to", defArgs s_Equations_answer_to, defBody s_Equations_answer_to, defScope s_Equations_answer_to, [], []⟩
def dd_ratio_solution : DefD := ⟨("ratio_solution", none), "ratio_solution", "ratio_solution", defArgs s_ratio_solution, defBody s_ratio_solution, defScope s_ratio_solution, [], []⟩
def dd_is_whole : DefD := ⟨("is_whole", none), "is_whole", "is_whole", defArgs s_is_whole, defBody s_is_whole, defScope s_is_whole, [], []⟩
def dd_is_list : DefD := ⟨("is_list", none), "is_list", "is_list", defArgs s_is_list, defBody s_is_list, defScope s_is_list, [], []⟩
def dd_told_exponents : DefD := ⟨("told_exponents", none), "told_exponents", "told_exponents", defArgs s_told_exponents, defBody s_told_exponents, defScope s_told_exponents, [], []⟩
def dd_told_result : DefD := ⟨("told_result", none), "told_result", "told_result", defArgs s_told_result, defBody s_told_result, defScope s_told_result, [], []⟩
def dd_Zero_init : DefD := ⟨("Zero", some "__init__"), "__init__", "Zero.__init__", defArgs s_Zero_init, defBody s_Zero_init, defScope s_Zero_init, [], []⟩
def dd_Hangs_init : DefD := ⟨("Hangs", some "__init__"), "__init__", "Hangs.__init__", defArgs s_Hangs_init, defBody s_Hangs_init, defScope s_Hangs_init, [], []⟩
def dd_span_answer : DefD := ⟨("span_answer", none), "span_answer", "span_answer", defArgs s_span_answer, defBody s_span_answer, defScope s_span_answer, [], []⟩
def dd_group_at : DefD := ⟨("group_at", none), "group_at", "group_at", defArgs s_group_at, defBody s_group_at, defScope s_group_at, [], []⟩
def dd_change_at : DefD := ⟨("change_at", none), "change_at", "change_at", defArgs s_change_at, defBody s_change_at, defScope s_change_at, [], []⟩
def dd_hangs : DefD := ⟨("hangs", none), "hangs", "hangs", defArgs s_hangs, defBody s_hangs, defScope s_hangs, [], []⟩
def dd_law_pen : DefD := ⟨("_law_pen", none), "_law_pen", "_law_pen", defArgs s_law_pen, defBody s_law_pen, defScope s_law_pen, [], []⟩
def dd_law_draw : DefD := ⟨("_law_draw", none), "_law_draw", "_law_draw", defArgs s_law_draw, defBody s_law_draw, defScope s_law_draw, [], []⟩
def dd_law_pick : DefD := ⟨("_law_pick", none), "_law_pick", "_law_pick", defArgs s_law_pick, defBody s_law_pick, defScope s_law_pick, [], []⟩
def dd_law_matrix : DefD := ⟨("_law_matrix", none), "_law_matrix", "_law_matrix", defArgs s_law_matrix, defBody s_law_matrix, defScope s_law_matrix, [], []⟩
def dd_law_exponents : DefD := ⟨("_law_exponents", none), "_law_exponents", "_law_exponents", defArgs s_law_exponents, defBody s_law_exponents, defScope s_law_exponents, [], []⟩
def dd_law_turned : DefD := ⟨("_law_turned", none), "_law_turned", "_law_turned", defArgs s_law_turned, defBody s_law_turned, defScope s_law_turned, [], []⟩
def dd_law_inner : DefD := ⟨("_law_inner", none), "_law_inner", "_law_inner", defArgs s_law_inner, defBody s_law_inner, defScope s_law_inner, [], []⟩
def dd_law_unit_of : DefD := ⟨("_law_unit_of", none), "_law_unit_of", "_law_unit_of", defArgs s_law_unit_of, defBody s_law_unit_of, defScope s_law_unit_of, [], []⟩
def dd_law_gcd : DefD := ⟨("_law_gcd", none), "_law_gcd", "_law_gcd", defArgs s_law_gcd, defBody s_law_gcd, defScope s_law_gcd, [], []⟩
def dd_law_q : DefD := ⟨("_law_q", none), "_law_q", "_law_q", defArgs s_law_q, defBody s_law_q, defScope s_law_q, [], []⟩
def dd_law_is_whole : DefD := ⟨("_law_is_whole", none), "_law_is_whole", "_law_is_whole", defArgs s_law_is_whole, defBody s_law_is_whole, defScope s_law_is_whole, [], []⟩
def dd_law_is_ratio : DefD := ⟨("_law_is_ratio", none), "_law_is_ratio", "_law_is_ratio", defArgs s_law_is_ratio, defBody s_law_is_ratio, defScope s_law_is_ratio, [], []⟩
def dd_law_is_group : DefD := ⟨("_law_is_group", none), "_law_is_group", "_law_is_group", defArgs s_law_is_group, defBody s_law_is_group, defScope s_law_is_group, [], []⟩
def dd_law_is_change : DefD := ⟨("_law_is_change", none), "_law_is_change", "_law_is_change", defArgs s_law_is_change, defBody s_law_is_change, defScope s_law_is_change, [], []⟩
def dd_law_rank : DefD := ⟨("_law_rank", none), "_law_rank", "_law_rank", defArgs s_law_rank, defBody s_law_rank, defScope s_law_rank, [], []⟩
def dd_law_in_span : DefD := ⟨("_law_in_span", none), "_law_in_span", "_law_in_span", defArgs s_law_in_span, defBody s_law_in_span, defScope s_law_in_span, [], []⟩
def dd_law_letter_right : DefD := ⟨("_law_letter_right", none), "_law_letter_right", "_law_letter_right", defArgs s_law_letter_right, defBody s_law_letter_right, defScope s_law_letter_right, [], []⟩
def dd_law_right : DefD := ⟨("_law_right", none), "_law_right", "_law_right", defArgs s_law_right, defBody s_law_right, defScope s_law_right, [], []⟩
def dd_law : DefD := ⟨("law", none), "law", "law", defArgs s_law, defBody s_law, defScope s_law, [], []⟩
def allFn0 : List DefD := [dd_common_divisor, dd_lowest, dd_times, dd_over, dd_plus, dd_nearest, dd_less_multiple, dd_identity, dd_turned, dd_pairs_of]
def allFn1 : List DefD := [dd_common_bottom, dd_integers, dd_dot, dd_smallest_at, dd_cleared_below, dd_formed, dd_hermite_of, dd_basis_rows, dd_take_row, dd_take_column]
def allFn2 : List DefD := [dd_swap, dd_smallest, dd_uneven, dd_crossed_out, dd_settle, dd_Work_init, dd_smith_of, dd_kernel_of, dd_Equations_init, dd_left_over]
def allFn3 : List DefD := [dd_answer_to, dd_ratio_solution, dd_is_whole, dd_is_list, dd_told_exponents, dd_told_result, dd_Zero_init, dd_Hangs_init, dd_span_answer, dd_group_at]
def allFn4 : List DefD := [dd_change_at, dd_hangs, dd_law_pen, dd_law_draw, dd_law_pick, dd_law_matrix, dd_law_exponents, dd_law_turned, dd_law_inner, dd_law_unit_of]
def allFn5 : List DefD := [dd_law_gcd, dd_law_q, dd_law_is_whole, dd_law_is_ratio, dd_law_is_group, dd_law_is_change, dd_law_rank, dd_law_in_span, dd_law_letter_right, dd_law_right]
def allFn6 : List DefD := [dd_law]
def allFn : List DefD := allFn0 ++ (allFn1 ++ (allFn2 ++ (allFn3 ++ (allFn4 ++ (allFn5 ++ (allFn6))))))
def allFa0 : List Fa := [.glo "common_divisor", .glo "lowest", .glo "times", .glo "over", .glo "plus", .glo "nearest", .glo "less_multiple", .glo "identity", .glo "turned", .glo "pairs_of"]
def allFa1 : List Fa := [.glo "common_bottom", .glo "integers", .glo "dot", .glo "smallest_at", .glo "cleared_below", .glo "formed", .glo "hermite_of", .glo "basis_rows", .glo "smith_of", .glo "kernel_of"]
def allFa2 : List Fa := [.glo "ratio_solution", .glo "is_whole", .glo "is_list", .glo "told_exponents", .glo "told_result", .glo "span_answer", .glo "group_at", .glo "change_at", .glo "hangs", .glo "_law_pen"]
def allFa3 : List Fa := [.glo "_law_draw", .glo "_law_pick", .glo "_law_matrix", .glo "_law_exponents", .glo "_law_turned", .glo "_law_inner", .glo "_law_unit_of", .glo "_law_gcd", .glo "_law_q", .glo "_law_is_whole"]
def allFa4 : List Fa := [.glo "_law_is_ratio", .glo "_law_is_group", .glo "_law_is_change", .glo "_law_rank", .glo "_law_in_span", .glo "_law_letter_right", .glo "_law_right", .glo "law", .glo "Work", .cls "Work"]
def allFa5 : List Fa := [.mkr "Work", .noat "Work" "many", .noat "Work" "wide", .noat "Work" "grid", .noat "Work" "lefts", .noat "Work" "rights", .glo "Equations", .cls "Equations", .mkr "Equations", .noat "Equations" "lefts"]
def allFa6 : List Fa := [.noat "Equations" "rank", .noat "Equations" "wide", .noat "Equations" "forms", .glo "Zero", .cls "Zero", .mkr "Zero", .noat "Zero" "change", .glo "Hangs", .cls "Hangs", .mkr "Hangs"]
def allFa7 : List Fa := [.noat "Hangs" "kinds", .noat "Hangs" "powers", .noat "Hangs" "groups", .noat "Hangs" "changes", .meth "Work" "take_row", .meth "Work" "take_column", .meth "Work" "swap", .meth "Work" "smallest", .meth "Work" "uneven", .meth "Work" "crossed_out"]
def allFa8 : List Fa := [.meth "Work" "settle", .meth "Equations" "left_over", .meth "Equations" "answer_to", .free "len", .free "range", .free "zip", .free "abs", .free "min", .free "any", .free "all"]
def allFa9 : List Fa := [.free "sum", .free "isinstance", .free "int", .free "bool", .free "list", .free "tuple"]
def allFa : List Fa := allFa0 ++ (allFa1 ++ (allFa2 ++ (allFa3 ++ (allFa4 ++ (allFa5 ++ (allFa6 ++ (allFa7 ++ (allFa8 ++ (allFa9)))))))))
def looseN0 : List Str := ["ScaleError", "BadMatrix", "common_divisor", "lowest", "is_whole", "plus", "times", "over", "dot", "common_bottom"]
def looseN1 : List Str := ["integers", "identity", "turned", "nearest", "less_multiple", "smallest_at", "cleared_below", "formed", "hermite_of", "basis_rows"]
def looseN2 : List Str := ["Work", "smith_of", "kernel_of", "Equations", "ratio_solution", "pairs_of", "is_list", "Zero", "Hangs", "told_exponents"]
def looseN3 : List Str := ["told_result", "span_answer", "group_at", "change_at", "hangs", "_law_pen", "_law_draw", "_law_pick", "_law_gcd", "_law_q"]
def looseN4 : List Str := ["_law_is_whole", "_law_is_ratio", "_law_turned", "_law_inner", "_law_rank", "_law_matrix", "_law_exponents", "_law_unit_of", "_law_is_group", "_law_is_change"]
def looseN5 : List Str := ["_law_in_span", "_law_letter_right", "_law_right"]
def looseN : List Str := looseN0 ++ (looseN1 ++ (looseN2 ++ (looseN3 ++ (looseN4 ++ (looseN5)))))
section
variable {P : Program} {w : World} {K : PySem.W.Frag} {h : Heap} {mg : Str → Option Value} {f : Addr}
theorem joined (X : K.In h) (G : h.Ns mainGlobals mg) (hfa : mg "law" = some (.ref f)) (c : SaysD allFa allFn K) (e : moreB K = true) (N : h.NoSeer) (tr : P.given.tree = none) (PL : PlainLaw) :
    ∃ fd : FuncData, (∀ (s : Shared) (v : Value), BindsTo s fd ⟨[v], []⟩ [("_law_script", v)]) ∧ ∀ base : Heap, K.In base → base.Ns mainGlobals mg → FnOk P w K mg base CX0 51 f fd ["_law_script"] (spLaw K) := by
  have T : Bn mg := ⟨free_ok X G (c.fact 83 (f := .free "len") rfl), free_ok X G (c.fact 84 (f := .free "range") rfl), free_ok X G (c.fact 85 (f := .free "zip") rfl), free_ok X G (c.fact 86 (f := .free "abs") rfl), free_ok X G (c.fact 87 (f := .free "min") rfl), free_ok X G (c.fact 88 (f := .free "any") rfl), free_ok X G (c.fact 89 (f := .free "all") rfl), free_ok X G (c.fact 90 (f := .free "sum") rfl), free_ok X G (c.fact 91 (f := .free "isinstance") rfl), free_ok X G (c.fact 92 (f := .free "int") rfl), free_ok X G (c.fact 93 (f := .free "bool") rfl), free_ok X G (c.fact 94 (f := .free "list") rfl), free_ok X G (c.fact 95 (f := .free "tuple") rfl)⟩
  have g_Work : mg "Work" = some (.ref (ga K "Work")) := glo_ok X G (c.fact 48 (f := .glo "Work") rfl)
  have cl_Work : Cls K (ga K "Work") := cls_ok (c.fact 49 (f := .cls "Work") rfl)
  have c_Work : WCl K (ga K "Work") := ⟨cl_Work, noat_ok (c.fact 51 (f := .noat "Work" "many") rfl), noat_ok (c.fact 52 (f := .noat "Work" "wide") rfl), noat_ok (c.fact 53 (f := .noat "Work" "grid") rfl), noat_ok (c.fact 54 (f := .noat "Work" "lefts") rfl), noat_ok (c.fact 55 (f := .noat "Work" "rights") rfl)⟩
  have g_Equations : mg "Equations" = some (.ref (ga K "Equations")) := glo_ok X G (c.fact 56 (f := .glo "Equations") rfl)
  have cl_Equations : Cls K (ga K "Equations") := cls_ok (c.fact 57 (f := .cls "Equations") rfl)
  have c_Equations : ECl K (ga K "Equations") := ⟨cl_Equations, noat_ok (c.fact 59 (f := .noat "Equations" "lefts") rfl), noat_ok (c.fact 60 (f := .noat "Equations" "rank") rfl), noat_ok (c.fact 61 (f := .noat "Equations" "wide") rfl), noat_ok (c.fact 62 (f := .noat "Equations" "forms") rfl)⟩
  have g_Zero : mg "Zero" = some (.ref (ga K "Zero")) := glo_ok X G (c.fact 63 (f := .glo "Zero") rfl)
  have cl_Zero : Cls K (ga K "Zero") := cls_ok (c.fact 64 (f := .cls "Zero") rfl)
  have g_Hangs : mg "Hangs" = some (.ref (ga K "Hangs")) := glo_ok X G (c.fact 67 (f := .glo "Hangs") rfl)
  have cl_Hangs : Cls K (ga K "Hangs") := cls_ok (c.fact 68 (f := .cls "Hangs") rfl)
  have c_Hangs : HCl K (ga K "Hangs") := ⟨cl_Hangs, noat_ok (c.fact 70 (f := .noat "Hangs" "kinds") rfl), noat_ok (c.fact 71 (f := .noat "Hangs" "powers") rfl), noat_ok (c.fact 72 (f := .noat "Hangs" "groups") rfl), noat_ok (c.fact 73 (f := .noat "Hangs" "changes") rfl)⟩
  have nz : NoAttr K (ga K "Zero") "change" := noat_ok (c.fact 66 (f := .noat "Zero" "change") rfl)
  obtain ⟨iz, ih⟩ := ic_ok e cl_Zero cl_Hangs
  obtain ⟨fd_common_divisor, F_common_divisor⟩ := c.def_ 0 (d := dd_common_divisor) rfl
  obtain ⟨fd_lowest, F_lowest⟩ := c.def_ 1 (d := dd_lowest) rfl
  obtain ⟨fd_times, F_times⟩ := c.def_ 2 (d := dd_times) rfl
  obtain ⟨fd_over, F_over⟩ := c.def_ 3 (d := dd_over) rfl
  obtain ⟨fd_plus, F_plus⟩ := c.def_ 4 (d := dd_plus) rfl
  obtain ⟨fd_nearest, F_nearest⟩ := c.def_ 5 (d := dd_nearest) rfl
  obtain ⟨fd_less_multiple, F_less_multiple⟩ := c.def_ 6 (d := dd_less_multiple) rfl
  obtain ⟨fd_identity, F_identity⟩ := c.def_ 7 (d := dd_identity) rfl
  obtain ⟨fd_turned, F_turned⟩ := c.def_ 8 (d := dd_turned) rfl
  obtain ⟨fd_pairs_of, F_pairs_of⟩ := c.def_ 9 (d := dd_pairs_of) rfl
  obtain ⟨fd_common_bottom, F_common_bottom⟩ := c.def_ 10 (d := dd_common_bottom) rfl
  obtain ⟨fd_integers, F_integers⟩ := c.def_ 11 (d := dd_integers) rfl
  obtain ⟨fd_dot, F_dot⟩ := c.def_ 12 (d := dd_dot) rfl
  obtain ⟨fd_smallest_at, F_smallest_at⟩ := c.def_ 13 (d := dd_smallest_at) rfl
  obtain ⟨fd_cleared_below, F_cleared_below⟩ := c.def_ 14 (d := dd_cleared_below) rfl
  obtain ⟨fd_formed, F_formed⟩ := c.def_ 15 (d := dd_formed) rfl
  obtain ⟨fd_hermite_of, F_hermite_of⟩ := c.def_ 16 (d := dd_hermite_of) rfl
  obtain ⟨fd_basis_rows, F_basis_rows⟩ := c.def_ 17 (d := dd_basis_rows) rfl
  obtain ⟨fd_take_row, F_take_row⟩ := c.def_ 18 (d := dd_take_row) rfl
  obtain ⟨fd_take_column, F_take_column⟩ := c.def_ 19 (d := dd_take_column) rfl
  obtain ⟨fd_swap, F_swap⟩ := c.def_ 20 (d := dd_swap) rfl
  obtain ⟨fd_smallest, F_smallest⟩ := c.def_ 21 (d := dd_smallest) rfl
  obtain ⟨fd_uneven, F_uneven⟩ := c.def_ 22 (d := dd_uneven) rfl
  obtain ⟨fd_crossed_out, F_crossed_out⟩ := c.def_ 23 (d := dd_crossed_out) rfl
  obtain ⟨fd_settle, F_settle⟩ := c.def_ 24 (d := dd_settle) rfl
  obtain ⟨fd_Work_init, F_Work_init⟩ := c.def_ 25 (d := dd_Work_init) rfl
  obtain ⟨fd_smith_of, F_smith_of⟩ := c.def_ 26 (d := dd_smith_of) rfl
  obtain ⟨fd_kernel_of, F_kernel_of⟩ := c.def_ 27 (d := dd_kernel_of) rfl
  obtain ⟨fd_Equations_init, F_Equations_init⟩ := c.def_ 28 (d := dd_Equations_init) rfl
  obtain ⟨fd_left_over, F_left_over⟩ := c.def_ 29 (d := dd_left_over) rfl
  obtain ⟨fd_answer_to, F_answer_to⟩ := c.def_ 30 (d := dd_answer_to) rfl
  obtain ⟨fd_ratio_solution, F_ratio_solution⟩ := c.def_ 31 (d := dd_ratio_solution) rfl
  obtain ⟨fd_is_whole, F_is_whole⟩ := c.def_ 32 (d := dd_is_whole) rfl
  obtain ⟨fd_is_list, F_is_list⟩ := c.def_ 33 (d := dd_is_list) rfl
  obtain ⟨fd_told_exponents, F_told_exponents⟩ := c.def_ 34 (d := dd_told_exponents) rfl
  obtain ⟨fd_told_result, F_told_result⟩ := c.def_ 35 (d := dd_told_result) rfl
  obtain ⟨fd_Zero_init, F_Zero_init⟩ := c.def_ 36 (d := dd_Zero_init) rfl
  obtain ⟨fd_Hangs_init, F_Hangs_init⟩ := c.def_ 37 (d := dd_Hangs_init) rfl
  obtain ⟨fd_span_answer, F_span_answer⟩ := c.def_ 38 (d := dd_span_answer) rfl
  obtain ⟨fd_group_at, F_group_at⟩ := c.def_ 39 (d := dd_group_at) rfl
  obtain ⟨fd_change_at, F_change_at⟩ := c.def_ 40 (d := dd_change_at) rfl
  obtain ⟨fd_hangs, F_hangs⟩ := c.def_ 41 (d := dd_hangs) rfl
  obtain ⟨fd_law_pen, F_law_pen⟩ := c.def_ 42 (d := dd_law_pen) rfl
  obtain ⟨fd_law_draw, F_law_draw⟩ := c.def_ 43 (d := dd_law_draw) rfl
  obtain ⟨fd_law_pick, F_law_pick⟩ := c.def_ 44 (d := dd_law_pick) rfl
  obtain ⟨fd_law_matrix, F_law_matrix⟩ := c.def_ 45 (d := dd_law_matrix) rfl
  obtain ⟨fd_law_exponents, F_law_exponents⟩ := c.def_ 46 (d := dd_law_exponents) rfl
  obtain ⟨fd_law_turned, F_law_turned⟩ := c.def_ 47 (d := dd_law_turned) rfl
  obtain ⟨fd_law_inner, F_law_inner⟩ := c.def_ 48 (d := dd_law_inner) rfl
  obtain ⟨fd_law_unit_of, F_law_unit_of⟩ := c.def_ 49 (d := dd_law_unit_of) rfl
  obtain ⟨fd_law_gcd, F_law_gcd⟩ := c.def_ 50 (d := dd_law_gcd) rfl
  obtain ⟨fd_law_q, F_law_q⟩ := c.def_ 51 (d := dd_law_q) rfl
  obtain ⟨fd_law_is_whole, F_law_is_whole⟩ := c.def_ 52 (d := dd_law_is_whole) rfl
  obtain ⟨fd_law_is_ratio, F_law_is_ratio⟩ := c.def_ 53 (d := dd_law_is_ratio) rfl
  obtain ⟨fd_law_is_group, F_law_is_group⟩ := c.def_ 54 (d := dd_law_is_group) rfl
  obtain ⟨fd_law_is_change, F_law_is_change⟩ := c.def_ 55 (d := dd_law_is_change) rfl
  obtain ⟨fd_law_rank, F_law_rank⟩ := c.def_ 56 (d := dd_law_rank) rfl
  obtain ⟨fd_law_in_span, F_law_in_span⟩ := c.def_ 57 (d := dd_law_in_span) rfl
  obtain ⟨fd_law_letter_right, F_law_letter_right⟩ := c.def_ 58 (d := dd_law_letter_right) rfl
  obtain ⟨fd_law_right, F_law_right⟩ := c.def_ 59 (d := dd_law_right) rfl
  obtain ⟨fd_law, F_law⟩ := c.def_ 60 (d := dd_law) rfl
  have eL := hfa.symm.trans (glo_ok X G (c.fact 47 (f := .glo "law") rfl))
  cases eL
  have bL := FunD.bindsA (ps := ["_law_script"]) F_law fun _ _ _ _ _ _ us hl => match us, hl with | [_], _ => rfl
  refine ⟨fd_law, fun s v => bL s [v] rfl, fun base Xb Gb => ?_⟩
  have B : Big P base := ⟨seer_base X Xb e N, tr⟩
  have Hh_common_divisor : Fn P w K mg base 41 "common_divisor" ["one", "two"] spCD := ⟨_, fd_common_divisor, glo_ok X G (c.fact 0 (f := .glo "common_divisor") rfl), F_common_divisor.kp, (F_common_divisor.bindsN fun _ _ _ _ _ _ us hl => match us, hl with | [_, _], _ => rfl), ok_common_divisor (P := P) (w := w) (base := base) F_common_divisor (T := T)⟩
  have Hh_lowest : Fn P w K mg base 42 "lowest" ["top", "bottom"] spLow := ⟨_, fd_lowest, glo_ok X G (c.fact 1 (f := .glo "lowest") rfl), F_lowest.kp, (F_lowest.bindsN fun _ _ _ _ _ _ us hl => match us, hl with | [_, _], _ => rfl), ok_lowest (P := P) (w := w) (base := base) F_lowest (B := B) (h_common_divisor := Hh_common_divisor)⟩
  have Hh_times : Fn P w K mg base 43 "times" ["one", "two"] (spTimes K) := ⟨_, fd_times, glo_ok X G (c.fact 2 (f := .glo "times") rfl), F_times.kp, (F_times.bindsN fun _ _ _ _ _ _ us hl => match us, hl with | [_, _], _ => rfl), ok_times (P := P) (w := w) (base := base) F_times (h_lowest := Hh_lowest)⟩
  have Hh_over : Fn P w K mg base 43 "over" ["one", "two"] (spOver K) := ⟨_, fd_over, glo_ok X G (c.fact 3 (f := .glo "over") rfl), F_over.kp, (F_over.bindsN fun _ _ _ _ _ _ us hl => match us, hl with | [_, _], _ => rfl), ok_over (P := P) (w := w) (base := base) F_over (h_lowest := Hh_lowest)⟩
  have Hh_plus : Fn P w K mg base 43 "plus" ["one", "two"] (spPlus K) := ⟨_, fd_plus, glo_ok X G (c.fact 4 (f := .glo "plus") rfl), F_plus.kp, (F_plus.bindsN fun _ _ _ _ _ _ us hl => match us, hl with | [_, _], _ => rfl), ok_plus (P := P) (w := w) (base := base) F_plus (h_lowest := Hh_lowest)⟩
  have Hh_nearest : Fn P w K mg base 41 "nearest" ["one", "two"] spNear := ⟨_, fd_nearest, glo_ok X G (c.fact 5 (f := .glo "nearest") rfl), F_nearest.kp, (F_nearest.bindsN fun _ _ _ _ _ _ us hl => match us, hl with | [_, _], _ => rfl), ok_nearest (P := P) (w := w) (base := base) F_nearest (B := B)⟩
  have Hh_less_multiple : Fn P w K mg base 41 "less_multiple" ["row", "by", "other"] (spLess K) := ⟨_, fd_less_multiple, glo_ok X G (c.fact 6 (f := .glo "less_multiple") rfl), F_less_multiple.kp, (F_less_multiple.bindsN fun _ _ _ _ _ _ us hl => match us, hl with | [_, _, _], _ => rfl), ok_less_multiple (P := P) (w := w) (base := base) F_less_multiple (T := T)⟩
  have Hh_identity : Fn P w K mg base 41 "identity" ["many"] spId := ⟨_, fd_identity, glo_ok X G (c.fact 7 (f := .glo "identity") rfl), F_identity.kp, (F_identity.bindsN fun _ _ _ _ _ _ us hl => match us, hl with | [_], _ => rfl), ok_identity (P := P) (w := w) (base := base) F_identity (T := T)⟩
  have Hh_turned : Fn P w K mg base 41 "turned" ["rows"] (spTurned K) := ⟨_, fd_turned, glo_ok X G (c.fact 8 (f := .glo "turned") rfl), F_turned.kp, (F_turned.bindsN fun _ _ _ _ _ _ us hl => match us, hl with | [_], _ => rfl), ok_turned (P := P) (w := w) (base := base) F_turned (T := T)⟩
  have Hh_pairs_of : Fn P w K mg base 41 "pairs_of" ["rows"] (spPairs K) := ⟨_, fd_pairs_of, glo_ok X G (c.fact 9 (f := .glo "pairs_of") rfl), F_pairs_of.kp, (F_pairs_of.bindsN fun _ _ _ _ _ _ us hl => match us, hl with | [_], _ => rfl), ok_pairs_of (P := P) (w := w) (base := base) F_pairs_of (T := T)⟩
  have Hh_common_bottom : Fn P w K mg base 42 "common_bottom" ["row"] (spCB K) := ⟨_, fd_common_bottom, glo_ok X G (c.fact 10 (f := .glo "common_bottom") rfl), F_common_bottom.kp, (F_common_bottom.bindsN fun _ _ _ _ _ _ us hl => match us, hl with | [_], _ => rfl), ok_common_bottom (P := P) (w := w) (base := base) F_common_bottom (B := B) (h_common_divisor := Hh_common_divisor)⟩
  have Hh_integers : Fn P w K mg base 43 "integers" ["row"] (spInts K) := ⟨_, fd_integers, glo_ok X G (c.fact 11 (f := .glo "integers") rfl), F_integers.kp, (F_integers.bindsN fun _ _ _ _ _ _ us hl => match us, hl with | [_], _ => rfl), ok_integers (P := P) (w := w) (base := base) F_integers (B := B) (h_common_divisor := Hh_common_divisor) (h_common_bottom := Hh_common_bottom)⟩
  have Hh_dot : Fn P w K mg base 44 "dot" ["row", "other"] (spDot K) := ⟨_, fd_dot, glo_ok X G (c.fact 12 (f := .glo "dot") rfl), F_dot.kp, (F_dot.bindsN fun _ _ _ _ _ _ us hl => match us, hl with | [_, _], _ => rfl), ok_dot (P := P) (w := w) (base := base) F_dot (T := T) (h_plus := Hh_plus) (h_times := Hh_times)⟩
  have Hh_smallest_at : Fn P w K mg base 41 "smallest_at" ["rows", "column", "start"] (spSm K) := ⟨_, fd_smallest_at, glo_ok X G (c.fact 13 (f := .glo "smallest_at") rfl), F_smallest_at.kp, (F_smallest_at.bindsN fun _ _ _ _ _ _ us hl => match us, hl with | [_, _, _], _ => rfl), ok_smallest_at (P := P) (w := w) (base := base) F_smallest_at (T := T)⟩
  have Hh_cleared_below : Fn P w K mg base 42 "cleared_below" ["work", "column", "place"] (spCl K) := ⟨_, fd_cleared_below, glo_ok X G (c.fact 14 (f := .glo "cleared_below") rfl), F_cleared_below.kp, (F_cleared_below.bindsN fun _ _ _ _ _ _ us hl => match us, hl with | [_, _, _], _ => rfl), ok_cleared_below (P := P) (w := w) (base := base) F_cleared_below (T := T) (h_smallest_at := Hh_smallest_at) (h_nearest := Hh_nearest) (h_less_multiple := Hh_less_multiple)⟩
  have Hh_formed : Fn P w K mg base 43 "formed" ["work", "wide"] (spFo K) := ⟨_, fd_formed, glo_ok X G (c.fact 15 (f := .glo "formed") rfl), F_formed.kp, (F_formed.bindsN fun _ _ _ _ _ _ us hl => match us, hl with | [_, _], _ => rfl), ok_formed (P := P) (w := w) (base := base) F_formed (T := T) (B := B) (h_cleared_below := Hh_cleared_below) (h_less_multiple := Hh_less_multiple)⟩
  have Hh_hermite_of : Fn P w K mg base 44 "hermite_of" ["rows"] (spHe K) := ⟨_, fd_hermite_of, glo_ok X G (c.fact 16 (f := .glo "hermite_of") rfl), F_hermite_of.kp, (F_hermite_of.bindsN fun _ _ _ _ _ _ us hl => match us, hl with | [_], _ => rfl), ok_hermite_of (P := P) (w := w) (base := base) F_hermite_of (T := T) (h_identity := Hh_identity) (h_formed := Hh_formed)⟩
  have Hh_basis_rows : Fn P w K mg base 44 "basis_rows" ["rows"] (spBa K) := ⟨_, fd_basis_rows, glo_ok X G (c.fact 17 (f := .glo "basis_rows") rfl), F_basis_rows.kp, (F_basis_rows.bindsN fun _ _ _ _ _ _ us hl => match us, hl with | [_], _ => rfl), ok_basis_rows (P := P) (w := w) (base := base) F_basis_rows (T := T) (h_formed := Hh_formed)⟩
  have Hm_take_row : Md P w K mg base 42 (ga K "Work") "take_row" ["self", "k", "by", "j"] (spTR K (ga K "Work")) := ⟨_, fd_take_row, meth_ok (c.fact 74 (f := .meth "Work" "take_row") rfl), (F_take_row.bindsN fun _ _ _ _ _ _ us hl => match us, hl with | [_, _, _, _], _ => rfl), ok_take_row (P := P) (w := w) (base := base) F_take_row (c := c_Work) (h_less_multiple := Hh_less_multiple)⟩
  have Hm_take_column : Md P w K mg base 42 (ga K "Work") "take_column" ["self", "k", "by", "j"] (spTC K (ga K "Work")) := ⟨_, fd_take_column, meth_ok (c.fact 75 (f := .meth "Work" "take_column") rfl), (F_take_column.bindsN fun _ _ _ _ _ _ us hl => match us, hl with | [_, _, _, _], _ => rfl), ok_take_column (P := P) (w := w) (base := base) F_take_column (c := c_Work) (h_less_multiple := Hh_less_multiple)⟩
  have Hm_swap : Md P w K mg base 41 (ga K "Work") "swap" ["self", "k", "j", "start"] (spSw K (ga K "Work")) := ⟨_, fd_swap, meth_ok (c.fact 76 (f := .meth "Work" "swap") rfl), (F_swap.bindsN fun _ _ _ _ _ _ us hl => match us, hl with | [_, _, _, _], _ => rfl), ok_swap (P := P) (w := w) (base := base) F_swap (c := c_Work)⟩
  have Hm_smallest : Md P w K mg base 41 (ga K "Work") "smallest" ["self", "start"] (spSmall K (ga K "Work")) := ⟨_, fd_smallest, meth_ok (c.fact 77 (f := .meth "Work" "smallest") rfl), (F_smallest.bindsN fun _ _ _ _ _ _ us hl => match us, hl with | [_, _], _ => rfl), ok_smallest (P := P) (w := w) (base := base) F_smallest (c := c_Work) (T := T)⟩
  have Hm_uneven : Md P w K mg base 41 (ga K "Work") "uneven" ["self", "start"] (spUn K (ga K "Work")) := ⟨_, fd_uneven, meth_ok (c.fact 78 (f := .meth "Work" "uneven") rfl), (F_uneven.bindsN fun _ _ _ _ _ _ us hl => match us, hl with | [_, _], _ => rfl), ok_uneven (P := P) (w := w) (base := base) F_uneven (c := c_Work) (T := T)⟩
  have Hm_crossed_out : Md P w K mg base 43 (ga K "Work") "crossed_out" ["self", "start"] (spCr K (ga K "Work")) := ⟨_, fd_crossed_out, meth_ok (c.fact 79 (f := .meth "Work" "crossed_out") rfl), (F_crossed_out.bindsN fun _ _ _ _ _ _ us hl => match us, hl with | [_, _], _ => rfl), ok_crossed_out (P := P) (w := w) (base := base) F_crossed_out (c := c_Work) (T := T) (h_nearest := Hh_nearest) (m_take_row := Hm_take_row) (m_take_column := Hm_take_column)⟩
  have Hm_settle : Md P w K mg base 44 (ga K "Work") "settle" ["self", "start"] (spSe K (ga K "Work")) := ⟨_, fd_settle, meth_ok (c.fact 80 (f := .meth "Work" "settle") rfl), (F_settle.bindsN fun _ _ _ _ _ _ us hl => match us, hl with | [_, _], _ => rfl), ok_settle (P := P) (w := w) (base := base) F_settle (c := c_Work) (T := T) (m_take_row := Hm_take_row) (m_swap := Hm_swap) (m_smallest := Hm_smallest) (m_crossed_out := Hm_crossed_out) (m_uneven := Hm_uneven)⟩
  have Hk_Work : Mc P w K mg base 42 "Work" (ga K "Work") ["self", "rows"] (spWI K (ga K "Work")) := ⟨_, fd_Work_init, g_Work, mkr_ok (c.fact 50 (f := .mkr "Work") rfl), (F_Work_init.bindsN fun _ _ _ _ _ _ us hl => match us, hl with | [_, _], _ => rfl), ok_Work_init (P := P) (w := w) (base := base) F_Work_init (c := c_Work) (T := T) (h_identity := Hh_identity)⟩
  have Hh_smith_of : Fn P w K mg base 45 "smith_of" ["rows"] (spSmi K) := ⟨_, fd_smith_of, glo_ok X G (c.fact 18 (f := .glo "smith_of") rfl), F_smith_of.kp, (F_smith_of.bindsN fun _ _ _ _ _ _ us hl => match us, hl with | [_], _ => rfl), ok_smith_of (P := P) (w := w) (base := base) F_smith_of (c := c_Work) (T := T) (k_Work := Hk_Work) (m_settle := Hm_settle) (h_turned := Hh_turned)⟩
  have Hh_kernel_of : Fn P w K mg base 46 "kernel_of" ["rows"] (spKer K) := ⟨_, fd_kernel_of, glo_ok X G (c.fact 19 (f := .glo "kernel_of") rfl), F_kernel_of.kp, (F_kernel_of.bindsN fun _ _ _ _ _ _ us hl => match us, hl with | [_], _ => rfl), ok_kernel_of (P := P) (w := w) (base := base) F_kernel_of (T := T) (h_basis_rows := Hh_basis_rows) (h_smith_of := Hh_smith_of) (h_identity := Hh_identity) (h_turned := Hh_turned)⟩
  have Hk_Equations : Mc P w K mg base 46 "Equations" (ga K "Equations") ["self", "rows"] (spEI K (ga K "Equations")) := ⟨_, fd_Equations_init, g_Equations, mkr_ok (c.fact 58 (f := .mkr "Equations") rfl), (F_Equations_init.bindsN fun _ _ _ _ _ _ us hl => match us, hl with | [_, _], _ => rfl), ok_Equations_init (P := P) (w := w) (base := base) F_Equations_init (c := c_Equations) (T := T) (h_identity := Hh_identity) (h_hermite_of := Hh_hermite_of) (h_smith_of := Hh_smith_of)⟩
  have Hm_left_over : Md P w K mg base 44 (ga K "Equations") "left_over" ["self", "sides", "whole"] (spLO K (ga K "Equations")) := ⟨_, fd_left_over, meth_ok (c.fact 81 (f := .meth "Equations" "left_over") rfl), (F_left_over.bindsN fun _ _ _ _ _ _ us hl => match us, hl with | [_, _, _], _ => rfl), ok_left_over (P := P) (w := w) (base := base) F_left_over (c := c_Equations) (T := T) (h_over := Hh_over) (h_times := Hh_times)⟩
  have Hm_answer_to : Md P w K mg base 45 (ga K "Equations") "answer_to" ["self", "right", "whole"] (spAT K (ga K "Equations")) := ⟨_, fd_answer_to, meth_ok (c.fact 82 (f := .meth "Equations" "answer_to") rfl), (F_answer_to.bindsN fun _ _ _ _ _ _ us hl => match us, hl with | [_, _, _], _ => rfl), ok_answer_to (P := P) (w := w) (base := base) F_answer_to (c := c_Equations) (T := T) (h_over := Hh_over) (h_dot := Hh_dot) (m_left_over := Hm_left_over)⟩
  have Hh_ratio_solution : Fn P w K mg base 48 "ratio_solution" ["rows", "right"] (spRS K) := ⟨_, fd_ratio_solution, glo_ok X G (c.fact 20 (f := .glo "ratio_solution") rfl), F_ratio_solution.kp, (F_ratio_solution.bindsN fun _ _ _ _ _ _ us hl => match us, hl with | [_, _], _ => rfl), ok_ratio_solution (P := P) (w := w) (base := base) F_ratio_solution (B := B) (c := c_Equations) (T := T) (h_common_bottom := Hh_common_bottom) (h_times := Hh_times) (k_Equations := Hk_Equations) (m_answer_to := Hm_answer_to)⟩
  have Hh_is_whole : Fn P w K mg base 41 "is_whole" ["value"] spIsW := ⟨_, fd_is_whole, glo_ok X G (c.fact 21 (f := .glo "is_whole") rfl), F_is_whole.kp, (F_is_whole.bindsN fun _ _ _ _ _ _ us hl => match us, hl with | [_], _ => rfl), ok_is_whole (P := P) (w := w) (base := base) F_is_whole (T := T)⟩
  have Hh_is_list : Fn P w K mg base 41 "is_list" ["value"] (spIsL K) := ⟨_, fd_is_list, glo_ok X G (c.fact 22 (f := .glo "is_list") rfl), F_is_list.kp, (F_is_list.bindsN fun _ _ _ _ _ _ us hl => match us, hl with | [_], _ => rfl), ok_is_list (P := P) (w := w) (base := base) F_is_list (T := T)⟩
  have Hh_told_exponents : Fn P w K mg base 42 "told_exponents" ["exponents"] (spTE K) := ⟨_, fd_told_exponents, glo_ok X G (c.fact 23 (f := .glo "told_exponents") rfl), F_told_exponents.kp, (F_told_exponents.bindsN fun _ _ _ _ _ _ us hl => match us, hl with | [_], _ => rfl), ok_told_exponents (P := P) (w := w) (base := base) F_told_exponents (T := T) (h_is_whole := Hh_is_whole) (h_is_list := Hh_is_list)⟩
  have Hh_told_result : Fn P w K mg base 42 "told_result" ["result", "many"] (spTRes K) := ⟨_, fd_told_result, glo_ok X G (c.fact 24 (f := .glo "told_result") rfl), F_told_result.kp, (F_told_result.bindsN fun _ _ _ _ _ _ us hl => match us, hl with | [_, _], _ => rfl), ok_told_result (P := P) (w := w) (base := base) F_told_result (T := T) (h_is_whole := Hh_is_whole) (h_is_list := Hh_is_list)⟩
  have Hk_Zero : Mc P w K mg base 41 "Zero" (ga K "Zero") ["self", "change"] (spZI K (ga K "Zero")) := ⟨_, fd_Zero_init, g_Zero, mkr_ok (c.fact 65 (f := .mkr "Zero") rfl), (F_Zero_init.bindsN fun _ _ _ _ _ _ us hl => match us, hl with | [_, _], _ => rfl), ok_Zero_init (P := P) (w := w) (base := base) F_Zero_init (c := cl_Zero) (n := nz)⟩
  have Hk_Hangs : Mc P w K mg base 41 "Hangs" (ga K "Hangs") ["self", "kinds", "powers", "groups", "changes"] (spHI K (ga K "Hangs")) := ⟨_, fd_Hangs_init, g_Hangs, mkr_ok (c.fact 69 (f := .mkr "Hangs") rfl), (F_Hangs_init.bindsN fun _ _ _ _ _ _ us hl => match us, hl with | [_, _, _, _, _], _ => rfl), ok_Hangs_init (P := P) (w := w) (base := base) F_Hangs_init (c := c_Hangs)⟩
  have Hh_span_answer : Fn P w K mg base 49 "span_answer" ["letters", "result"] (spSA K) := ⟨_, fd_span_answer, glo_ok X G (c.fact 25 (f := .glo "span_answer") rfl), F_span_answer.kp, (F_span_answer.bindsN fun _ _ _ _ _ _ us hl => match us, hl with | [_, _], _ => rfl), ok_span_answer (P := P) (w := w) (base := base) F_span_answer (T := T) (h_turned := Hh_turned) (h_pairs_of := Hh_pairs_of) (h_ratio_solution := Hh_ratio_solution)⟩
  have Hh_group_at : Fn P w K mg base 41 "group_at" ["basis", "j"] (spGA K) := ⟨_, fd_group_at, glo_ok X G (c.fact 26 (f := .glo "group_at") rfl), F_group_at.kp, (F_group_at.bindsN fun _ _ _ _ _ _ us hl => match us, hl with | [_, _], _ => rfl), ok_group_at (P := P) (w := w) (base := base) F_group_at⟩
  have Hh_change_at : Fn P w K mg base 49 "change_at" ["letters", "j"] (spCh K) := ⟨_, fd_change_at, glo_ok X G (c.fact 27 (f := .glo "change_at") rfl), F_change_at.kp, (F_change_at.bindsN fun _ _ _ _ _ _ us hl => match us, hl with | [_, _], _ => rfl), ok_change_at (P := P) (w := w) (base := base) F_change_at (T := T) (h_pairs_of := Hh_pairs_of) (h_ratio_solution := Hh_ratio_solution) (h_integers := Hh_integers)⟩
  have Hh_hangs : Fn P w K mg base 50 "hangs" ["exponents", "result"] (spHa K (ga K "Zero") (ga K "Hangs")) := ⟨_, fd_hangs, glo_ok X G (c.fact 28 (f := .glo "hangs") rfl), F_hangs.kp, (F_hangs.bindsN fun _ _ _ _ _ _ us hl => match us, hl with | [_, _], _ => rfl), ok_hangs (P := P) (w := w) (base := base) F_hangs (T := T) (h_told_exponents := Hh_told_exponents) (h_told_result := Hh_told_result) (h_span_answer := Hh_span_answer) (h_integers := Hh_integers) (h_kernel_of := Hh_kernel_of) (h_turned := Hh_turned) (h_group_at := Hh_group_at) (h_change_at := Hh_change_at) (k_Zero := Hk_Zero) (k_Hangs := Hk_Hangs)⟩
  have Hh_law_pen : Fn P w K mg base 41 "_law_pen" ["_law_script"] (spPen K) := ⟨_, fd_law_pen, glo_ok X G (c.fact 29 (f := .glo "_law_pen") rfl), F_law_pen.kp, (F_law_pen.bindsN fun _ _ _ _ _ _ us hl => match us, hl with | [_], _ => rfl), ok_law_pen (P := P) (w := w) (base := base) F_law_pen (T := T)⟩
  have Hh_law_draw : Fn P w K mg base 41 "_law_draw" ["_law_pen_here", "_law_many"] (spDraw K) := ⟨_, fd_law_draw, glo_ok X G (c.fact 30 (f := .glo "_law_draw") rfl), F_law_draw.kp, (F_law_draw.bindsN fun _ _ _ _ _ _ us hl => match us, hl with | [_, _], _ => rfl), ok_law_draw (P := P) (w := w) (base := base) F_law_draw (B := B) (T := T)⟩
  have Hh_law_pick : Fn P w K mg base 42 "_law_pick" ["_law_pen_here", "_law_some"] (spPick K) := ⟨_, fd_law_pick, glo_ok X G (c.fact 31 (f := .glo "_law_pick") rfl), F_law_pick.kp, (F_law_pick.bindsN fun _ _ _ _ _ _ us hl => match us, hl with | [_, _], _ => rfl), ok_law_pick (P := P) (w := w) (base := base) F_law_pick (T := T) (h_law_draw := Hh_law_draw)⟩
  have Hh_law_matrix : Fn P w K mg base 43 "_law_matrix" ["_law_pen_here", "_law_many", "_law_wide", "_law_most"] (spMat K) := ⟨_, fd_law_matrix, glo_ok X G (c.fact 32 (f := .glo "_law_matrix") rfl), F_law_matrix.kp, (F_law_matrix.bindsN fun _ _ _ _ _ _ us hl => match us, hl with | [_, _, _, _], _ => rfl), ok_law_matrix (P := P) (w := w) (base := base) F_law_matrix (T := T) (h_law_draw := Hh_law_draw) (h_law_pick := Hh_law_pick)⟩
  have Hh_law_exponents : Fn P w K mg base 44 "_law_exponents" ["_law_pen_here", "_law_many", "_law_wide", "_law_most"] (spExp K) := ⟨_, fd_law_exponents, glo_ok X G (c.fact 33 (f := .glo "_law_exponents") rfl), F_law_exponents.kp, (F_law_exponents.bindsN fun _ _ _ _ _ _ us hl => match us, hl with | [_, _, _, _], _ => rfl), ok_law_exponents (P := P) (w := w) (base := base) F_law_exponents (T := T) (h_law_matrix := Hh_law_matrix)⟩
  have Hh_law_turned : Fn P w K mg base 41 "_law_turned" ["_law_rows"] (spLTu K) := ⟨_, fd_law_turned, glo_ok X G (c.fact 34 (f := .glo "_law_turned") rfl), F_law_turned.kp, (F_law_turned.bindsN fun _ _ _ _ _ _ us hl => match us, hl with | [_], _ => rfl), ok_law_turned (P := P) (w := w) (base := base) F_law_turned (T := T)⟩
  have Hh_law_inner : Fn P w K mg base 41 "_law_inner" ["_law_row", "_law_column"] (spInn K) := ⟨_, fd_law_inner, glo_ok X G (c.fact 35 (f := .glo "_law_inner") rfl), F_law_inner.kp, (F_law_inner.bindsN fun _ _ _ _ _ _ us hl => match us, hl with | [_, _], _ => rfl), ok_law_inner (P := P) (w := w) (base := base) F_law_inner (T := T)⟩
  have Hh_law_unit_of : Fn P w K mg base 42 "_law_unit_of" ["_law_exponents_here", "_law_powers"] (spUnit K) := ⟨_, fd_law_unit_of, glo_ok X G (c.fact 36 (f := .glo "_law_unit_of") rfl), F_law_unit_of.kp, (F_law_unit_of.bindsN fun _ _ _ _ _ _ us hl => match us, hl with | [_, _], _ => rfl), ok_law_unit_of (P := P) (w := w) (base := base) F_law_unit_of (T := T) (h_law_turned := Hh_law_turned) (h_law_inner := Hh_law_inner)⟩
  have Hh_law_gcd : Fn P w K mg base 41 "_law_gcd" ["_law_one", "_law_two"] spGcd := ⟨_, fd_law_gcd, glo_ok X G (c.fact 37 (f := .glo "_law_gcd") rfl), F_law_gcd.kp, (F_law_gcd.bindsN fun _ _ _ _ _ _ us hl => match us, hl with | [_, _], _ => rfl), ok_law_gcd (P := P) (w := w) (base := base) F_law_gcd (T := T)⟩
  have Hh_law_q : Fn P w K mg base 42 "_law_q" ["_law_top", "_law_bottom"] spQ := ⟨_, fd_law_q, glo_ok X G (c.fact 38 (f := .glo "_law_q") rfl), F_law_q.kp, (F_law_q.bindsN fun _ _ _ _ _ _ us hl => match us, hl with | [_, _], _ => rfl), ok_law_q (P := P) (w := w) (base := base) F_law_q (B := B) (h_law_gcd := Hh_law_gcd)⟩
  have Hh_law_is_whole : Fn P w K mg base 41 "_law_is_whole" ["_law_value"] spIsW := ⟨_, fd_law_is_whole, glo_ok X G (c.fact 39 (f := .glo "_law_is_whole") rfl), F_law_is_whole.kp, (F_law_is_whole.bindsN fun _ _ _ _ _ _ us hl => match us, hl with | [_], _ => rfl), ok_law_is_whole (P := P) (w := w) (base := base) F_law_is_whole (T := T)⟩
  have Hh_law_is_ratio : Fn P w K mg base 42 "_law_is_ratio" ["_law_value"] (spIsR K) := ⟨_, fd_law_is_ratio, glo_ok X G (c.fact 40 (f := .glo "_law_is_ratio") rfl), F_law_is_ratio.kp, (F_law_is_ratio.bindsN fun _ _ _ _ _ _ us hl => match us, hl with | [_], _ => rfl), ok_law_is_ratio (P := P) (w := w) (base := base) F_law_is_ratio (T := T) (h_law_is_whole := Hh_law_is_whole) (h_law_gcd := Hh_law_gcd)⟩
  have Hh_law_is_group : Fn P w K mg base 43 "_law_is_group" ["_law_value", "_law_exponents_here"] (spGrp K) := ⟨_, fd_law_is_group, glo_ok X G (c.fact 41 (f := .glo "_law_is_group") rfl), F_law_is_group.kp, (F_law_is_group.bindsN fun _ _ _ _ _ _ us hl => match us, hl with | [_, _], _ => rfl), ok_law_is_group (P := P) (w := w) (base := base) F_law_is_group (T := T) (h_law_is_whole := Hh_law_is_whole) (h_law_unit_of := Hh_law_unit_of)⟩
  have Hh_law_is_change : Fn P w K mg base 42 "_law_is_change" ["_law_value", "_law_wide"] (spChg K) := ⟨_, fd_law_is_change, glo_ok X G (c.fact 42 (f := .glo "_law_is_change") rfl), F_law_is_change.kp, (F_law_is_change.bindsN fun _ _ _ _ _ _ us hl => match us, hl with | [_, _], _ => rfl), ok_law_is_change (P := P) (w := w) (base := base) F_law_is_change (T := T) (h_law_is_whole := Hh_law_is_whole)⟩
  have Hh_law_rank : Fn P w K mg base 41 "_law_rank" ["_law_rows"] (spRank K) := ⟨_, fd_law_rank, glo_ok X G (c.fact 43 (f := .glo "_law_rank") rfl), F_law_rank.kp, (F_law_rank.bindsN fun _ _ _ _ _ _ us hl => match us, hl with | [_], _ => rfl), ok_law_rank (P := P) (w := w) (base := base) F_law_rank (B := B) (T := T)⟩
  have Hh_law_in_span : Fn P w K mg base 42 "_law_in_span" ["_law_exponents_here", "_law_row"] (spSpan K) := ⟨_, fd_law_in_span, glo_ok X G (c.fact 44 (f := .glo "_law_in_span") rfl), F_law_in_span.kp, (F_law_in_span.bindsN fun _ _ _ _ _ _ us hl => match us, hl with | [_, _], _ => rfl), ok_law_in_span (P := P) (w := w) (base := base) F_law_in_span (T := T) (h_law_rank := Hh_law_rank)⟩
  have Hh_law_letter_right : Fn P w K mg base 44 "_law_letter_right" ["_law_exponents_here", "_law_result", "_law_told", "_law_j"] (spLet K (ga K "Hangs")) := ⟨_, fd_law_letter_right, glo_ok X G (c.fact 45 (f := .glo "_law_letter_right") rfl), F_law_letter_right.kp, (F_law_letter_right.bindsN fun _ _ _ _ _ _ us hl => match us, hl with | [_, _, _, _], _ => rfl), ok_law_letter_right (P := P) (w := w) (base := base) F_law_letter_right (T := T) (c := c_Hangs) (h_law_is_group := Hh_law_is_group) (h_law_is_change := Hh_law_is_change) (h_law_is_ratio := Hh_law_is_ratio) (h_law_inner := Hh_law_inner) (h_law_q := Hh_law_q)⟩
  have Hh_law_right : Fn P w K mg base 45 "_law_right" ["_law_exponents_here", "_law_result", "_law_told"] (spRight K (ga K "Zero") (ga K "Hangs")) := ⟨_, fd_law_right, glo_ok X G (c.fact 46 (f := .glo "_law_right") rfl), F_law_right.kp, (F_law_right.bindsN fun _ _ _ _ _ _ us hl => match us, hl with | [_, _, _], _ => rfl), ok_law_right (P := P) (w := w) (base := base) F_law_right (T := T) (c := c_Hangs) (cz := cl_Zero) (nz := nz) (iz := iz) (ih := ih) (g_Zero := g_Zero) (g_Hangs := g_Hangs) (h_law_in_span := Hh_law_in_span) (h_law_is_change := Hh_law_is_change) (h_law_inner := Hh_law_inner) (h_law_letter_right := Hh_law_letter_right)⟩
  exact ok_law (P := P) (w := w) (base := base) F_law (B := B) (T := T) (PL := PL) (cz := cl_Zero) (nz := nz) (c := c_Hangs) (h_law_pen := Hh_law_pen) (h_law_draw := Hh_law_draw) (h_law_pick := Hh_law_pick) (h_law_exponents := Hh_law_exponents) (h_law_unit_of := Hh_law_unit_of) (h_hangs := Hh_hangs) (h_law_right := Hh_law_right) (k_Zero := Hk_Zero) (k_Hangs := Hk_Hangs)
end
def lawAt : Nat := 59
end K51W
namespace K51W
open PySem PySem.Spec PyProof.Rows L2 He K51
abbrev RwO : PySem.W.OpenRow := PySem.W.OpenLaw.row PySem.Challenge.rw_allscales_k51_whole_kinds_of_letters
abbrev hkB : PySem.W.Hook := hookB 5 allFa allFn
def obB (s : PySem.W.SharedT) : AlB := seeB 5 allFa allFn (HandSHeadRun.getT s)
theorem obB_eq (s : PySem.W.SharedT) : obB s = hkB.obs s.abs := seeB_eq (HandSHeadRun.getT_eq s)
theorem runB_top (w : World) : HandSHeadRun.RunEq RwO (PySem.W.view RwO.prog [lawAt]) hkB obB 6000 looseN w := by
  intro os
  kernel_rfl
end K51W
namespace K51W
open PySem PySem.Spec PyProof.Rows L2 He K51
/-- a law over such a head, with what the division of great ints leans on -/
theorem walkB {law_ : PySem.W.OpenLaw} {most lev : Nat} {vw : Program} {ls : List Str} {X1 : (Str → Option Value) → Heap → Prop} {Y1 : World → Heap → Prop} {dr : DefRec} {arg : Str}
    (h1 : law_.most = some most) (h2 : most ≤ sizeLine) (h3 : dr.params.defaults = []) (h4 : Room lev callerA) (h5 : importsNone vw = true)
    (F : ∀ (w : World) (gl : Str → Option Value) (at_ : Addr) (hp : Heap), Y1 w hp → hp.Ns mainGlobals gl → hp.NoSeer → gl dr.name = some (.ref at_) → ∃ (K : PySem.W.Frag) (fd : FuncData) (sp : Sp), K.In hp ∧ (∀ (s : Shared) (u : Value), BindsTo s fd ⟨[u], []⟩ [(arg, u)]) ∧
      (∀ (H : Hp) (p : Addr) (cs : List Int), cs.length ≤ most → SqL K H p (cs.map V.int) → sp [.ref p] H (fun v _ => v = .bl true) fun _ _ _ => False) ∧ ∀ base : Heap, K.In base → base.Ns mainGlobals gl → FnOk law_.prog w K gl base CX0 lev at_ fd [arg] sp) :
    PySem.W.WalkO vw ls X1 Y1 law_.row.toRowW dr [] (fun f vs => PySem.call f vs) := by
  refine Att.attach_call h1 h3 fun w s0 s1 gl gb at_ ob p1 c1 d1 sa us cs Gr Yy o1 o2 o3 o4 o5 o6 o7 o8 => ?_
  obtain ⟨K, fd, sp, kx, b1, b2, b3⟩ := F w gl at_ _ Yy Gr.T.g (Gr.T.seer h5) o4
  have lc : cs.length ≤ sizeLine := Nat.le_trans o7 h2
  exact law_call kx Gr.T.g Gr.T.b Gr.T.builtins Gr.T.nolimit o8 o5 o6 lc h4 b3 b1 (fun H _ hS => b2 H sa cs o7 hS) fun _ _ _ z => z
theorem law_holds (PL : PlainLaw) : PySem.Challenge.rw_allscales_k51_whole_kinds_of_letters.Holds := by
  w_on; o_law
  refine HandSHeadRun.head_any (r := RwO) (q := PySem.W.view RwO.prog [lawAt]) (H := hkB) (ob := obB) (M := 6000) (loose := looseN) (d := HandSHeadRun.topDef RwO.prog lawAt) (kwd := []) obB_eq
    (by kernel_rfl) (fun s => by kernel_rfl) runB_top (by kernel_rfl) (by kernel_rfl) (by kernel_rfl) (by rfl) (by first | assumption | decide +kernel) (by decide +kernel) ⟨rfl, rfl, rfl, rfl, rfl, by decide +kernel⟩ ?hw ?hc
  case hw => w_witness2
  case hc =>
    refine walkB (law_ := PySem.Challenge.rw_allscales_k51_whole_kinds_of_letters) (most := 63) (lev := 51) (arg := "_law_script") rfl (by decide) (by kernel_rfl) ⟨rfl, by decide, by decide⟩ (by decide +kernel) fun w gl at_ hp Y G N g0 => ?_
    obtain ⟨K, KX, c, e⟩ := Y
    have en : (HandSHeadRun.topDef RwO.prog lawAt).name = ("law" : Str) := by kernel_rfl
    rw [en] at g0
    obtain ⟨fd, hb, hF⟩ := joined (P := PySem.Challenge.rw_allscales_k51_whole_kinds_of_letters.prog) (w := w) KX G g0 c e N rfl PL
    exact ⟨K, fd, spLaw K, KX, hb, fun H p cs hl hS => ⟨p, cs, rfl, hS, by omega, fun _ => rfl⟩, hF⟩
end K51W

open PySem PySem.W PyProof.Rows
set_option maxHeartbeats 0
theorem PySem.Challenge.cw_allscales_k51_whole_kinds_of_letters_holds : PySem.Challenge.rw_allscales_k51_whole_kinds_of_letters.Holds := by
  exact K51W.law_holds K51W.plain_law
