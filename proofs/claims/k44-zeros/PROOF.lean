import PyProof.Rows.All
import Wide.All
import OpenK.AllK
import Wide.FinOn
import PySem.Challenge.RW_mapflow_k44_whole_zeros_counted
import HandS.ForMost
import HandS.Evl
import HandS.Deep
import HandS.Star
import HandS.Style
import HandS.Zip
import HandS.IsInst
import HandS.WideBits
import HandS.TupAny
import HandS.RaiseMore
import HandS.EndBits
import KE.GoesMore
import KE.KStateDown
import HandS.Head0
import HandS.Head1
import HandS.Head2
import HandS.HeadHook1
import HandS.HeadHook2
-- text M0
section
set_option autoImplicit false
set_option linter.all false
/-! M0: what the program computes, as plain functions of rationals and integers (core Lean). -/
namespace Mf
/-! ### lists without zeros at the end -/
section
variable {α : Type} [OfNat α 0] [DecidableEq α]
def trim : List α → List α
  | [] => []
  | a :: l => match trim l with
    | [] => if a = 0 then [] else [a]
    | b :: m => a :: b :: m
theorem trim_nil : trim ([] : List α) = [] := rfl
theorem trim_cons (a : α) (l : List α) : trim (a :: l) = if trim l = [] then (if a = 0 then [] else [a]) else a :: trim l := by
  show (match trim l with | [] => if a = 0 then [] else [a] | b :: m => a :: b :: m) = _
  cases trim l <;> simp
theorem trim_len : ∀ l : List α, (trim l).length ≤ l.length
  | [] => Nat.le_refl _
  | a :: l => by
    have ih := trim_len l
    rw [trim_cons]
    split
    · split <;> simp
    · simp only [List.length_cons]; omega
/-- the part of a list in front of its zeros at the end -/
theorem trim_take : ∀ (l : List α) (m : Nat), m ≤ l.length → (∀ j x, m ≤ j → l[j]? = some x → x = 0) → (∀ x, l[m - 1]? = some x → 0 < m → x ≠ 0) → trim l = l.take m
  | [], m, hm, _, _ => by simp [trim_nil]
  | a :: l, 0, _, h0, _ => by
    have ih := trim_take l 0 (Nat.zero_le _) (fun j x _ h => h0 (j + 1) x (Nat.zero_le _) (by simpa using h)) (fun _ _ h => absurd h (Nat.lt_irrefl _))
    have ha : a = 0 := h0 0 a (Nat.le_refl _) rfl
    rw [trim_cons, ih, List.take_zero, if_pos rfl, if_pos ha, List.take_zero]
  | a :: l, m + 1, hm, h0, h1 => by
    have hm' : m ≤ l.length := by simpa using hm
    by_cases hm0 : m = 0
    · subst hm0
      have ih := trim_take l 0 (Nat.zero_le _) (fun j x _ h => h0 (j + 1) x (by omega) (by simpa using h)) (fun _ _ h => absurd h (Nat.lt_irrefl _))
      have ha : a ≠ 0 := h1 a rfl (by omega)
      rw [trim_cons, ih, List.take_zero, if_pos rfl, if_neg ha]
      rfl
    · have ih := trim_take l m hm' (fun j x hj h => h0 (j + 1) x (by omega) (by simpa using h)) (fun x h _ => h1 x (by
        have e : m + 1 - 1 = (m - 1) + 1 := by omega
        rw [e, List.getElem?_cons_succ]
        exact h) (by omega))
      have hne : l.take m ≠ [] := by
        intro z
        have := congrArg List.length z
        rw [List.length_take, List.length_nil] at this
        omega
      rw [trim_cons, ih, if_neg hne, List.take_succ_cons]
theorem trim_last : ∀ (l : List α), trim l ≠ [] → ∀ x, (trim l).getLast? = some x → x ≠ 0
  | [], h, _, _ => absurd rfl h
  | a :: l, h, x, hx => by
    rw [trim_cons] at h hx
    by_cases hl : trim l = []
    · rw [if_pos hl] at h hx
      by_cases ha : a = 0
      · rw [if_pos ha] at h; exact absurd rfl h
      · rw [if_neg ha] at hx
        simp at hx
        rw [← hx]; exact ha
    · rw [if_neg hl] at hx
      refine trim_last l hl x ?_
      rw [List.getLast?_cons] at hx
      cases hq : (trim l).getLast? with
      | none =>
        rw [List.getLast?_eq_none_iff] at hq
        exact absurd hq hl
      | some y =>
        rw [hq] at hx
        simpa using hx
theorem trim_drop0 (l : List α) : trim (l ++ [0]) = trim l := by
  induction l with
  | nil => simp [trim_cons, trim_nil]
  | cons a l ih => rw [List.cons_append, trim_cons, trim_cons, ih]
theorem trim_done {l : List α} (h : ∀ x, l.getLast? = some x → x ≠ 0) : trim l = l := by
  cases l with
  | nil => rfl
  | cons a l =>
    have := trim_take (a :: l) (a :: l).length (Nat.le_refl _) (fun j x hj hx => by
      rw [List.getElem?_eq_none_iff.mpr hj] at hx; cases hx) (fun x hx _ => h x (by rw [List.getLast?_eq_getElem?]; exact hx))
    rw [this, List.take_length]
end

/-! ### integers -/
def gcdAll (l : List Int) : Nat := l.foldl (fun g x => Nat.gcd g x.natAbs) 0
/-- divided by the greatest one that divides all -/
def less (l : List Int) : List Int := if 1 < gcdAll l then l.map (fun x => x / (gcdAll l : Int)) else l
theorem less_len (l : List Int) : (less l).length = l.length := by
  unfold less; split <;> simp
/-- one step of the rest: the first one's length falls -/
def tstep (other rest : List Int) : List Int :=
  let lead := other.getLastD 0
  let at_ := rest.length - other.length
  let by_ := (if lead > 0 then 1 else -1) * rest.getLastD 0
  less (trim ((rest.take at_).map (fun m => (lead.natAbs : Int) * m) ++ (List.zipWith (fun m i => (lead.natAbs : Int) * m - by_ * i) (rest.drop at_) other).dropLast))
theorem tstep_len {other rest : List Int} (h0 : other ≠ []) (h : other.length ≤ rest.length) : (tstep other rest).length < rest.length := by
  unfold tstep
  simp only
  rw [less_len]
  refine Nat.lt_of_le_of_lt (trim_len _) ?_
  have : 0 < other.length := List.length_pos_iff.mpr h0
  rw [List.length_append, List.length_map, List.length_take, List.length_dropLast, List.length_zipWith, List.length_drop]
  omega
def tloop (other rest : List Int) : List Int :=
  if h : other ≠ [] ∧ other.length ≤ rest.length then tloop other (tstep other rest) else rest
termination_by rest.length
decreasing_by exact tstep_len h.1 h.2
/-- the rest with its signs turned, times a number above 0 -/
def trest (one other : List Int) : List Int := (tloop other one).map (fun x => -x)
theorem tloop_len {other : List Int} (h0 : other ≠ []) : ∀ (n : Nat) (rest : List Int), rest.length = n → (tloop other rest).length < other.length := by
  intro n
  induction n using Nat.strongRecOn with
  | _ n ih =>
    intro rest hn
    rw [tloop]
    split
    · rename_i h
      exact ih _ (by rw [← hn]; exact tstep_len h.1 h.2) _ rfl
    · rename_i h
      have : ¬ other.length ≤ rest.length := fun z => h ⟨h0, z⟩
      omega
theorem trest_len {one other : List Int} (h0 : other ≠ []) : (trest one other).length < other.length := by
  unfold trest
  rw [List.length_map]
  exact tloop_len h0 _ _ rfl
/-- the row from its two latest ones on (the later one last) -/
def rowLoop (a b : List Int) : List (List Int) :=
  if h : b = [] then [] else b :: rowLoop b (trest a b)
termination_by b.length
decreasing_by exact trest_len h

/-! ### rationals -/
/-- integers, and one from 1 on by which they are divided -/
def lcmDen (l : List Rat) : Int := l.foldl (fun d c => d / (Int.gcd d c.den : Int) * c.den) 1
def whole (l : List Rat) : List Int := l.map fun c => c.num * (lcmDen l / c.den)
def slope (l : List Rat) : List Rat := trim ((l.mapIdx fun i c => (i : Rat) * c).drop 1)
def srow (l : List Rat) : List (List Int) := less (whole l) :: rowLoop (less (whole l)) (less (whole (slope l)))
/-- one step of the division: quotient's number and the rest -/
def pstep (other rest : List Rat) : List Rat :=
  let at_ := rest.length - other.length
  let by_ := rest.getLastD 0 / other.getLastD 0
  trim (rest.take at_ ++ (List.zipWith (fun m i => m - by_ * i) (rest.drop at_) other).dropLast)
theorem pstep_len {other rest : List Rat} (h0 : other ≠ []) (h : other.length ≤ rest.length) : (pstep other rest).length < rest.length := by
  unfold pstep
  simp only
  refine Nat.lt_of_le_of_lt (trim_len _) ?_
  have : 0 < other.length := List.length_pos_iff.mpr h0
  rw [List.length_append, List.length_take, List.length_dropLast, List.length_zipWith, List.length_drop]
  omega
def ploop (other : List Rat) (quo rest : List Rat) : List Rat × List Rat :=
  if h : other ≠ [] ∧ other.length ≤ rest.length then ploop other (quo.set (rest.length - other.length) (rest.getLastD 0 / other.getLastD 0)) (pstep other rest) else (trim quo, rest)
termination_by rest.length
decreasing_by exact pstep_len h.1 h.2
def parted (one other : List Rat) : List Rat × List Rat := ploop other (List.replicate (one.length + 1 - other.length) 0) one
def crow (l : List Rat) : List (List Int) :=
  let row := srow l
  if ((row.getLastD []).length = 1) then row else srow (parted l ((row.getLastD []).map fun (n : Int) => (n : Rat))).1
/-- the sign of a list of integers at a fraction, as the program reckons it -/
def hornr (at_ : Rat) (l : List Int) : Int × Int := l.reverse.foldl (fun fb n => (fb.1 * at_.num + n * fb.2, fb.2 * at_.den)) (0, 1)
def signOf (l : List Int) (at_ : Rat) : Int := (if (hornr at_ l).1 > 0 then 1 else 0) - (if (hornr at_ l).1 < 0 then 1 else 0)
def signsAt (row : List (List Int)) (at_ : Rat) : List Int := (row.map fun l => signOf l at_).filter (fun s => s ≠ 0)
def changes (row : List (List Int)) (at_ : Rat) : Int :=
  ((List.zipWith (fun a b => (a, b)) (signsAt row at_) ((signsAt row at_).drop 1)).map fun ab => if ab.1 ≠ ab.2 then (1 : Int) else 0).sum
def zbetween (l : List Rat) (lo hi : Rat) : Int := changes (crow l) lo - changes (crow l) hi
end Mf
end

-- text M1
section
set_option autoImplicit false
set_option linter.all false
/-! M1: what the law draws, as plain data (core Lean). -/
namespace Mf
/-! ### products as the law multiplies -/
def addAt (f : List Rat) (k : Nat) (x : Rat) : List Rat := f.set k (f.getD k 0 + x)
def pin (f : List Rat) (k : Nat) (mine : Rat) : List Rat → List Rat
  | [] => f
  | its :: r => pin (addAt f k (mine * its)) (k + 1) mine r
def pout (f : List Rat) (k : Nat) (m : List Rat) : List Rat → List Rat
  | [] => f
  | x :: r => pout (pin f k x m) (k + 1) m r
def pzero (l m : List Rat) : List Rat := List.replicate (l.length + m.length - 1) 0
def lprod (l m : List Rat) : List Rat := trim (pout (pzero l m) 0 m l)
theorem addAt_len (f : List Rat) (k : Nat) (x : Rat) : (addAt f k x).length = f.length := by unfold addAt; simp
theorem pin_len (mine : Rat) : ∀ (m : List Rat) (f : List Rat) (k : Nat), (pin f k mine m).length = f.length
  | [], f, k => rfl
  | its :: r, f, k => by rw [pin, pin_len mine r, addAt_len]
theorem pout_len (m : List Rat) : ∀ (l : List Rat) (f : List Rat) (k : Nat), (pout f k m l).length = f.length
  | [], f, k => rfl
  | x :: r, f, k => by rw [pout, pout_len m r, pin_len]
theorem pin_step (mine : Rat) : ∀ (m : List Rat) (f : List Rat) (k j : Nat) (y : Rat), m[j]? = some y → pin f k mine (m.take (j + 1)) = addAt (pin f k mine (m.take j)) (k + j) (mine * y)
  | [], f, k, j, y, h => by simp at h
  | its :: r, f, k, 0, y, h => by
    simp at h
    subst h
    simp [pin]
  | its :: r, f, k, j + 1, y, h => by
    rw [List.take_succ_cons, List.take_succ_cons, pin, pin, pin_step mine r _ (k + 1) j y (by simpa using h)]
    congr 1
    omega
theorem pout_step (m : List Rat) : ∀ (l : List Rat) (f : List Rat) (k j : Nat) (y : Rat), l[j]? = some y → pout f k m (l.take (j + 1)) = pin (pout f k m (l.take j)) (k + j) y m
  | [], f, k, j, y, h => by simp at h
  | x :: r, f, k, 0, y, h => by
    simp at h
    subst h
    simp [pout]
  | x :: r, f, k, j + 1, y, h => by
    rw [List.take_succ_cons, List.take_succ_cons, pout, pout, pout_step m r _ (k + 1) j y (by simpa using h)]
    congr 1
    omega
/-! ### zeros -/
inductive Zr where
  | rat (q : Rat)
  | root (s k : Int)
  deriving DecidableEq
def aboveB : Zr → Rat → Bool
  | .rat q, b => decide (b.num * q.den < q.num * b.den)
  | .root s k, b => if s = 1 then decide (b.num < 0) || decide (b.num * b.num < k * b.den * b.den) else decide (b.num < 0) && decide (k * b.den * b.den < b.num * b.num)
def inSt (lo hi : Rat) (z : Zr) : Bool := aboveB z lo && !aboveB z hi
/-- factors -/
inductive Fa where
  | lin (r : Rat) | sq (k : Int) | qa | qb | qc | qd | ng
  deriving DecidableEq
def fpoly : Fa → List Rat
  | .lin r => [-r, 1]
  | .sq k => [-(k : Rat), 0, 1]
  | .qa => [1, 1, 1]
  | .qb => [1 / 4, 0, 1]
  | .qc => [3, 1, 1]
  | .qd => [1 / 3, 0, 0, 0, 5]
  | .ng => [-2]
def zadd (zs : List Zr) : Fa → List Zr
  | .lin r => if Zr.rat r ∈ zs then zs else zs ++ [.rat r]
  | .sq k => zs ++ [Zr.root 1 k, Zr.root (-1) k].filter fun z => z ∉ zs
  | _ => zs
def mkp (c : Rat) (L : List Fa) : List Rat := L.foldl (fun p f => lprod p (fpoly f)) [c]
def zsOf (L : List Fa) : List Zr := L.foldl zadd []
theorem mkp_snoc (c : Rat) (L : List Fa) (f : Fa) : mkp c (L ++ [f]) = lprod (mkp c L) (fpoly f) := by unfold mkp; rw [List.foldl_append]; rfl
theorem zsOf_snoc (L : List Fa) (f : Fa) : zsOf (L ++ [f]) = zadd (zsOf L) f := by unfold zsOf; rw [List.foldl_append]; rfl
def isLin : Fa → Bool | .lin _ => true | _ => false
def isSq : Fa → Bool | .sq _ => true | _ => false
def isQ : Fa → Bool | .qa => true | .qb => true | _ => false
def isX : Fa → Bool | .qc => true | .qd => true | .ng => true | _ => false
def fok : Fa → Prop
  | .lin r => ∃ p q : Int, r = Rat.divInt p q ∧ -12 ≤ p ∧ p ≤ 12 ∧ (q = 1 ∨ q = 2 ∨ q = 3 ∨ q = 7)
  | .sq k => k = 2 ∨ k = 3 ∨ k = 5 ∨ k = 7 ∨ k = 10
  | _ => True
def cok (c : Rat) : Prop := ∃ a b : Int, c = Rat.divInt a b ∧ (a = 1 ∨ a = -1 ∨ a = 3 ∨ a = -7 ∨ a = 7) ∧ (b = 1 ∨ b = 2 ∨ b = 5)
structure Good (c : Rat) (L : List Fa) : Prop where
  c : cok c
  f : ∀ f ∈ L, fok f
  nl : L.countP isLin ≤ 10
  ns : L.countP isSq ≤ 2
  nq : L.countP isQ ≤ 1
  nx : L.countP isX ≤ 1
end Mf
end

-- text A1
section
set_option autoImplicit false
set_option linter.all false
/-! A1: polynomials as lists of rationals (core Lean). -/
namespace Mf
/-! ### bounds -/
def Ab (x B : Rat) : Prop := -B ≤ x ∧ x ≤ B
theorem Ab.nn {x B : Rat} (h : Ab x B) : 0 ≤ B := by have := h.1; have := h.2; grind
theorem Ab.add {x y A B : Rat} (h : Ab x A) (g : Ab y B) : Ab (x + y) (A + B) := by
  obtain ⟨a, b⟩ := h
  obtain ⟨c, d⟩ := g
  exact ⟨by grind, by grind⟩
theorem Ab.neg {x A : Rat} (h : Ab x A) : Ab (-x) A := by
  obtain ⟨a, b⟩ := h
  exact ⟨by grind, by grind⟩
theorem Ab.sub {x y A B : Rat} (h : Ab x A) (g : Ab y B) : Ab (x - y) (A + B) := by
  obtain ⟨a, b⟩ := h
  obtain ⟨c, d⟩ := g
  exact ⟨by grind, by grind⟩
theorem Ab.mono {x A B : Rat} (h : Ab x A) (g : A ≤ B) : Ab x B := by
  obtain ⟨a, b⟩ := h
  exact ⟨by grind, by grind⟩
theorem Ab.mul {x y A B : Rat} (h : Ab x A) (g : Ab y B) : Ab (x * y) (A * B) := by
  obtain ⟨a, b⟩ := h
  obtain ⟨c, d⟩ := g
  have h1 : 0 ≤ (A - x) * (B + y) := Rat.mul_nonneg (by grind) (by grind)
  have h2 : 0 ≤ (A + x) * (B - y) := Rat.mul_nonneg (by grind) (by grind)
  have h3 : 0 ≤ (A - x) * (B - y) := Rat.mul_nonneg (by grind) (by grind)
  have h4 : 0 ≤ (A + x) * (B + y) := Rat.mul_nonneg (by grind) (by grind)
  exact ⟨by grind, by grind⟩
theorem Ab.self {x : Rat} : ∃ B, 0 ≤ B ∧ Ab x B := by
  by_cases h : 0 ≤ x
  · exact ⟨x, h, by grind, by grind⟩
  · exact ⟨-x, by grind, by grind, by grind⟩
theorem Ab.zero {B : Rat} (h : 0 ≤ B) : Ab 0 B := ⟨by grind, h⟩
/-- a number below every positive one -/
theorem eq_zero_of {a B : Rat} (hB : 0 ≤ B) (h : ∀ x : Rat, 0 < x → x ≤ 1 → Ab a (x * B)) : a = 0 := by
  by_cases h0 : a = 0
  · exact h0
  obtain ⟨c, hc, hac⟩ := Ab.self (x := a)
  have key : ∀ d : Rat, 0 < d → Ab a d := by
    intro d hd
    have hp : (0 : Rat) < B + d := by grind
    have hx := h (d / (B + d)) (by
      rw [Rat.div_def]
      exact Rat.mul_pos hd (Rat.inv_pos.mpr hp)) (by
      have : d / (B + d) * (B + d) = d := Rat.div_mul_cancel (by grind)
      by_cases hle : d / (B + d) ≤ 1
      · exact hle
      · have h1 : 0 < (d / (B + d) - 1) * (B + d) := Rat.mul_pos (by grind) hp
        grind)
    refine hx.mono ?_
    have e : d / (B + d) * (B + d) = d := Rat.div_mul_cancel (by grind)
    have hq : 0 ≤ d / (B + d) := by
      rw [Rat.div_def]
      exact Rat.le_of_lt (Rat.mul_pos hd (Rat.inv_pos.mpr hp))
    have h2 : 0 ≤ d / (B + d) * d := Rat.mul_nonneg hq (Rat.le_of_lt hd)
    grind
  by_cases hp : 0 < a
  · have := (key (a / 2) (by grind)).2
    grind
  · have := (key (-a / 2) (by grind)).1
    grind
/-! ### values -/
def ev : List Rat → Rat → Rat
  | [], _ => 0
  | a :: l, x => a + x * ev l x
theorem ev_trim (l : List Rat) (x : Rat) : ev (trim l) x = ev l x := by
  induction l with
  | nil => rfl
  | cons a l ih =>
    rw [trim_cons]
    by_cases h : trim l = []
    · rw [if_pos h]
      rw [h] at ih
      have ih : 0 = ev l x := ih
      by_cases ha : a = 0
      · rw [if_pos ha]
        show 0 = a + x * ev l x
        rw [← ih, ha]
        grind
      · rw [if_neg ha]
        show a + x * 0 = a + x * ev l x
        rw [← ih]
    · rw [if_neg h]
      show a + x * ev (trim l) x = a + x * ev l x
      rw [ih]
theorem ev_bound (M : Rat) (hM : 0 ≤ M) (l : List Rat) : ∃ B, 0 ≤ B ∧ ∀ x, Ab x M → Ab (ev l x) B := by
  induction l with
  | nil => exact ⟨0, by grind, fun x _ => Ab.zero (by grind)⟩
  | cons a l ih =>
    obtain ⟨B, hB, h⟩ := ih
    obtain ⟨C, hC, ha⟩ := Ab.self (x := a)
    refine ⟨C + M * B, ?_, fun x hx => ha.add (hx.mul (h x hx))⟩
    have := Rat.mul_nonneg hM hB
    grind
theorem ev_zeros (n : Nat) (x : Rat) : ev (List.replicate n 0) x = 0 := by
  induction n with
  | zero => rfl
  | succ n ih =>
    rw [List.replicate_succ]
    show 0 + x * ev _ x = 0
    rw [ih]; grind
theorem ev_addAt (y t : Rat) : ∀ (f : List Rat) (k : Nat), k < f.length → ev (addAt f k y) t = ev f t + y * t ^ k
  | [], k, h => by simp at h
  | a :: f, 0, _ => by
    show (a + y) + t * ev f t = a + t * ev f t + y * t ^ 0
    grind
  | a :: f, k + 1, h => by
    have ih := ev_addAt y t f k (by simpa using h)
    have e : addAt (a :: f) (k + 1) y = a :: addAt f k y := by
      unfold addAt
      simp
    rw [e]
    show a + t * ev (addAt f k y) t = a + t * ev f t + y * t ^ (k + 1)
    rw [ih, Rat.pow_succ]
    grind
theorem ev_pin (mine t : Rat) : ∀ (m f : List Rat) (k : Nat), k + m.length ≤ f.length → ev (pin f k mine m) t = ev f t + mine * t ^ k * ev m t
  | [], f, k, _ => by
    show ev f t = ev f t + mine * t ^ k * 0
    grind
  | b :: m, f, k, h => by
    simp only [List.length_cons] at h
    rw [pin, ev_pin mine t m _ (k + 1) (by rw [addAt_len]; omega), ev_addAt _ _ _ _ (by omega)]
    show _ = ev f t + mine * t ^ k * (b + t * ev m t)
    rw [Rat.pow_succ]
    grind
theorem ev_pout (m : List Rat) (t : Rat) : ∀ (l f : List Rat) (k : Nat), (l ≠ [] → k + l.length + m.length ≤ f.length + 1) → ev (pout f k m l) t = ev f t + t ^ k * ev l t * ev m t
  | [], f, k, _ => by
    show ev f t = ev f t + t ^ k * 0 * ev m t
    grind
  | b :: l, f, k, h => by
    have h0 := h (by simp)
    simp only [List.length_cons] at h0
    rw [pout, ev_pout m t l _ (k + 1) (fun _ => by rw [pin_len]; omega), ev_pin _ _ _ _ _ (by omega)]
    show _ = ev f t + t ^ k * (b + t * ev l t) * ev m t
    rw [Rat.pow_succ]
    grind
theorem ev_lprod (l m : List Rat) (t : Rat) : ev (lprod l m) t = ev l t * ev m t := by
  unfold lprod
  rw [ev_trim, ev_pout m t l (pzero l m) 0 (fun h => by
    unfold pzero
    rw [List.length_replicate]
    have := List.length_pos_iff.mpr h
    omega)]
  unfold pzero
  rw [ev_zeros]
  grind
/-! ### sums, products -/
def padd : List Rat → List Rat → List Rat
  | [], m => m
  | a :: l, [] => a :: l
  | a :: l, b :: m => (a + b) :: padd l m
def psc (c : Rat) (l : List Rat) : List Rat := l.map fun a => c * a
def pmul : List Rat → List Rat → List Rat
  | [], _ => []
  | a :: l, m => padd (psc a m) (0 :: pmul l m)
theorem ev_padd (x : Rat) : ∀ l m : List Rat, ev (padd l m) x = ev l x + ev m x
  | [], m => by show ev m x = 0 + ev m x; grind
  | a :: l, [] => by show ev (a :: l) x = ev (a :: l) x + 0; grind
  | a :: l, b :: m => by
    show (a + b) + x * ev (padd l m) x = (a + x * ev l x) + (b + x * ev m x)
    rw [ev_padd x l m]
    grind
theorem ev_psc (c x : Rat) (l : List Rat) : ev (psc c l) x = c * ev l x := by
  induction l with
  | nil => show (0 : Rat) = c * 0; grind
  | cons a l ih =>
    show c * a + x * ev (psc c l) x = c * (a + x * ev l x)
    rw [ih]; grind
theorem ev_pmul (x : Rat) (m : List Rat) : ∀ l : List Rat, ev (pmul l m) x = ev l x * ev m x
  | [] => by show (0 : Rat) = 0 * ev m x; grind
  | a :: l => by
    rw [pmul, ev_padd, ev_psc]
    show a * ev m x + (0 + x * ev (pmul l m) x) = (a + x * ev l x) * ev m x
    rw [ev_pmul x m l]; grind
/-! ### equal values, equal lists -/
theorem trim_zero_of : ∀ l : List Rat, (∀ x : Rat, 0 < x → x ≤ 1 → ev l x = 0) → trim l = []
  | [], _ => rfl
  | a :: l, h => by
    obtain ⟨B, hB, hb⟩ := ev_bound 1 (by grind) l
    have ha : a = 0 := eq_zero_of hB fun x h1 h2 => by
      have e : a + x * ev l x = 0 := h x h1 h2
      have hx := (Ab.mul (x := x) (A := x) ⟨by grind, by grind⟩ (hb x ⟨by grind, h2⟩)).neg
      have : a = -(x * ev l x) := by grind
      rw [this]; exact hx
    have hl : trim l = [] := trim_zero_of l fun x h1 h2 => by
      have e : a + x * ev l x = 0 := h x h1 h2
      rw [ha] at e
      have e2 : x * ev l x = 0 := by grind
      rcases Rat.mul_eq_zero.mp e2 with z | z
      · grind
      · exact z
    rw [trim_cons, if_pos hl, if_pos ha]
theorem trim_eq_of : ∀ l m : List Rat, (∀ x : Rat, 0 < x → x ≤ 1 → ev l x = ev m x) → trim l = trim m
  | [], m, h => by
    rw [trim_zero_of m fun x h1 h2 => (h x h1 h2).symm]
    rfl
  | a :: l, [], h => by
    rw [trim_zero_of (a :: l) fun x h1 h2 => h x h1 h2]
    rfl
  | a :: l, b :: m, h => by
    obtain ⟨B, hB, hb⟩ := ev_bound 1 (by grind) l
    obtain ⟨C, hC, hc⟩ := ev_bound 1 (by grind) m
    have hab : a - b = 0 := eq_zero_of (B := C + B) (by grind) fun x h1 h2 => by
      have e : a + x * ev l x = b + x * ev m x := h x h1 h2
      have hx := Ab.mul (x := x) (A := x) ⟨by grind, by grind⟩ ((hc x ⟨by grind, h2⟩).sub (hb x ⟨by grind, h2⟩))
      have : a - b = x * (ev m x - ev l x) := by grind
      rw [this]; exact hx
    have hl : trim l = trim m := trim_eq_of l m fun x h1 h2 => by
      have e : a + x * ev l x = b + x * ev m x := h x h1 h2
      have e2 : x * (ev l x - ev m x) = 0 := by grind
      rcases Rat.mul_eq_zero.mp e2 with z | z
      · grind
      · grind
    have hab' : a = b := by grind
    rw [trim_cons, trim_cons, hl, hab']
end Mf
end

-- text A2
section
set_option autoImplicit false
set_option linter.all false
/-! A2: lengths of products, cancelling; derivatives. -/
namespace Mf
theorem padd_len : ∀ l m : List Rat, (padd l m).length = max l.length m.length
  | [], m => by simp [padd]
  | a :: l, [] => by simp [padd]
  | a :: l, b :: m => by simp only [padd, List.length_cons, padd_len l m]; omega
theorem last_cons {a : Rat} {l : List Rat} (h : l ≠ []) : (a :: l).getLastD 0 = l.getLastD 0 := by
  cases l with
  | nil => exact absurd rfl h
  | cons b l => simp [List.getLastD_eq_getLast?, List.getLast?_cons_cons]
theorem padd_last : ∀ l m : List Rat, l.length < m.length → (padd l m).getLastD 0 = m.getLastD 0
  | [], m, _ => by simp [padd]
  | a :: l, [], h => by simp at h
  | a :: l, b :: m, h => by
    have hl : l.length < m.length := by simpa using h
    have hm : m ≠ [] := fun z => by rw [z] at hl; simp at hl
    have hp : padd l m ≠ [] := fun z => by
      have := padd_len l m
      rw [z] at this
      simp at this
      omega
    show ((a + b) :: padd l m).getLastD 0 = (b :: m).getLastD 0
    rw [last_cons hp, last_cons hm, padd_last l m hl]
theorem psc_len (c : Rat) (l : List Rat) : (psc c l).length = l.length := by unfold psc; simp
theorem psc_last (c : Rat) (l : List Rat) : (psc c l).getLastD 0 = c * l.getLastD 0 := by
  unfold psc
  rw [List.getLastD_eq_getLast?, List.getLastD_eq_getLast?, List.getLast?_map]
  cases l.getLast? with
  | none => show (0 : Rat) = c * 0; grind
  | some x => rfl
theorem pmul_top (m : List Rat) (hm : m ≠ []) : ∀ l : List Rat, l ≠ [] → (pmul l m).length = l.length + m.length - 1 ∧ (pmul l m).getLastD 0 = l.getLastD 0 * m.getLastD 0
  | [], h => absurd rfl h
  | [a], _ => by
    have hml := List.length_pos_iff.mpr hm
    have e : pmul [a] m = padd (psc a m) [0] := rfl
    rw [e]
    constructor
    · rw [padd_len, psc_len]; simp; omega
    · cases m with
      | nil => exact absurd rfl hm
      | cons b m =>
        show ((a * b + 0) :: padd (psc a m) []).getLastD 0 = a * (b :: m).getLastD 0
        cases m with
        | nil => show a * b + 0 = a * b; grind
        | cons c m =>
          have e2 : padd (psc a (c :: m)) [] = psc a (c :: m) := rfl
          rw [e2, last_cons (l := psc a (c :: m)) (by unfold psc; simp), psc_last, last_cons (a := b) (l := c :: m) (by simp)]
  | a :: b :: l, _ => by
    obtain ⟨h1, h2⟩ := pmul_top m hm (b :: l) (by simp)
    have hml := List.length_pos_iff.mpr hm
    have hlt : (psc a m).length < (0 :: pmul (b :: l) m).length := by
      rw [psc_len, List.length_cons, h1]
      simp only [List.length_cons]
      omega
    have hp : pmul (b :: l) m ≠ [] := fun z => by
      rw [z] at h1
      simp only [List.length_cons, List.length_nil] at h1
      omega
    constructor
    · rw [pmul, padd_len, psc_len, List.length_cons, h1]
      simp only [List.length_cons]
      omega
    · rw [pmul, padd_last _ _ hlt, last_cons hp, h2, last_cons (a := a) (l := b :: l) (by simp)]
theorem last_ne {l : List Rat} (h : trim l ≠ []) : (trim l).getLastD 0 ≠ 0 := by
  have h2 := trim_last l h
  rw [List.getLastD_eq_getLast?, List.getLast?_eq_some_getLast h]
  exact h2 _ (List.getLast?_eq_some_getLast h)
theorem trim_of_last {l : List Rat} (h : l.getLastD 0 ≠ 0) : trim l = l := trim_done fun x hx z => h (by rw [List.getLastD_eq_getLast?, hx]; exact z)
theorem trim_idem (l : List Rat) : trim (trim l) = trim l := by
  by_cases h : trim l = []
  · rw [h]; rfl
  · exact trim_of_last (last_ne h)
/-- the length of a product -/
theorem prod_len {a b r : List Rat} (ha : trim a ≠ []) (hb : trim b ≠ []) (h : ∀ x : Rat, 0 < x → x ≤ 1 → ev a x * ev b x = ev r x) : (trim r).length = (trim a).length + (trim b).length - 1 ∧ trim r ≠ [] := by
  obtain ⟨h1, h2⟩ := pmul_top (trim b) hb (trim a) ha
  have hl : (pmul (trim a) (trim b)).getLastD 0 ≠ 0 := by
    rw [h2]
    exact fun z => (Rat.mul_eq_zero.mp z).elim (last_ne ha) (last_ne hb)
  have e : trim r = pmul (trim a) (trim b) := by
    rw [← trim_of_last hl]
    exact trim_eq_of _ _ fun x hx hx1 => by rw [← h x hx hx1, ev_pmul, ev_trim, ev_trim]
  have ha1 := List.length_pos_iff.mpr ha
  have hb1 := List.length_pos_iff.mpr hb
  refine ⟨by rw [e, h1], fun z => ?_⟩
  rw [e] at z
  rw [z] at h1
  simp at h1
  omega
theorem trim_nil_ev {l : List Rat} (h : trim l = []) (x : Rat) : ev l x = 0 := by rw [← ev_trim, h]; rfl
theorem ev_sub (a b : List Rat) (x : Rat) : ev (padd a (psc (-1) b)) x = ev a x - ev b x := by
  rw [ev_padd, ev_psc]; grind
theorem cancel {a b m : List Rat} (hm : trim m ≠ []) (h : ∀ x, ev a x * ev m x = ev b x * ev m x) : ∀ x, ev a x = ev b x := by
  intro x
  by_cases hz : trim (padd a (psc (-1) b)) = []
  · have := trim_nil_ev hz x
    rw [ev_sub] at this
    grind
  · have := (prod_len (r := []) hz hm fun y _ _ => by
      rw [ev_sub]
      have := h y
      show _ = (0 : Rat)
      grind).2
    exact absurd rfl this
theorem unit_const {a b : List Rat} {c : Rat} (hc : c ≠ 0) (h : ∀ x, ev a x * ev b x = c) : ∃ k, k ≠ 0 ∧ ∀ x, ev a x = k := by
  have ha : trim a ≠ [] := fun z => by
    have h1 := h 1
    rw [trim_nil_ev z] at h1
    grind
  have hb : trim b ≠ [] := fun z => by
    have h1 := h 1
    rw [trim_nil_ev z] at h1
    grind
  have h1 := (prod_len (r := [c]) ha hb fun x _ _ => by rw [h x]; show c = c + x * 0; grind).1
  have hr : trim [c] = [c] := by rw [trim_cons, if_pos trim_nil, if_neg hc]
  rw [hr] at h1
  have ha1 := List.length_pos_iff.mpr ha
  have hb1 := List.length_pos_iff.mpr hb
  have hlen : (trim a).length = 1 := by simp at h1; omega
  obtain ⟨k, hk⟩ := List.length_eq_one_iff.mp hlen
  refine ⟨k, ?_, fun x => ?_⟩
  · have := last_ne ha
    rw [hk] at this
    exact this
  · rw [← ev_trim, hk]
    show k + x * 0 = k
    grind
theorem len_le_of_dvd {p m r : List Rat} (hm : trim m ≠ []) (hr : trim r ≠ []) (h : ∀ x, ev p x * ev m x = ev r x) : (trim m).length ≤ (trim r).length := by
  have hp : trim p ≠ [] := fun z => by
    refine hr (trim_zero_of r fun x _ _ => ?_)
    rw [← h x, trim_nil_ev z]
    grind
  have h1 := (prod_len hp hm fun x _ _ => h x).1
  have := List.length_pos_iff.mpr hp
  omega
/-! ### derivatives -/
def HasD (f f' : Rat → Rat) : Prop := ∀ M : Rat, 0 ≤ M → ∃ C, 0 ≤ C ∧ ∀ x y, Ab x M → Ab y M → Ab (f y - f x - (y - x) * f' x) (C * ((y - x) * (y - x)))
/-- a function of a list -/
def Pf (f : Rat → Rat) : Prop := ∃ l, ∀ x, f x = ev l x
theorem Pf.bound {f : Rat → Rat} (h : Pf f) (M : Rat) (hM : 0 ≤ M) : ∃ B, 0 ≤ B ∧ ∀ x, Ab x M → Ab (f x) B := by
  obtain ⟨l, hl⟩ := h
  obtain ⟨B, hB, hb⟩ := ev_bound M hM l
  exact ⟨B, hB, fun x hx => by rw [hl]; exact hb x hx⟩
theorem Pf.mul {f g : Rat → Rat} (h : Pf f) (k : Pf g) : Pf fun x => f x * g x := by
  obtain ⟨l, hl⟩ := h
  obtain ⟨m, hm⟩ := k
  exact ⟨pmul l m, fun x => by show f x * g x = _; rw [ev_pmul, hl, hm]⟩
theorem Pf.add {f g : Rat → Rat} (h : Pf f) (k : Pf g) : Pf fun x => f x + g x := by
  obtain ⟨l, hl⟩ := h
  obtain ⟨m, hm⟩ := k
  exact ⟨padd l m, fun x => by show f x + g x = _; rw [ev_padd, hl, hm]⟩
theorem Pf.const (c : Rat) : Pf fun _ => c := ⟨[c], fun x => by show c = c + x * 0; grind⟩
theorem Pf.id : Pf fun x => x := ⟨[0, 1], fun x => by show x = 0 + x * (1 + x * 0); grind⟩
theorem Pf.ev (l : List Rat) : Pf (ev l) := ⟨l, fun _ => rfl⟩
theorem Pf.congr {f g : Rat → Rat} (h : Pf f) (e : ∀ x, g x = f x) : Pf g := by
  obtain ⟨l, hl⟩ := h
  exact ⟨l, fun x => by rw [e, hl]⟩
theorem sq_nn (x : Rat) : 0 ≤ x * x := by
  by_cases h : 0 ≤ x
  · exact Rat.mul_nonneg h h
  · have := Rat.mul_nonneg (a := -x) (b := -x) (by grind) (by grind)
    grind
theorem HasD.const (c : Rat) : HasD (fun _ => c) fun _ => 0 := fun M _ => ⟨0, by grind, fun x y _ _ => by
  have e : c - c - (y - x) * 0 = 0 := by grind
  have e2 : 0 * ((y - x) * (y - x)) = 0 := by grind
  rw [e, e2]
  exact Ab.zero (by grind)⟩
theorem HasD.id : HasD (fun x => x) fun _ => 1 := fun M _ => ⟨0, by grind, fun x y _ _ => by
  have e : y - x - (y - x) * 1 = 0 := by grind
  have e2 : 0 * ((y - x) * (y - x)) = 0 := by grind
  rw [e, e2]
  exact Ab.zero (by grind)⟩
theorem HasD.add {f f' g g' : Rat → Rat} (h : HasD f f') (k : HasD g g') : HasD (fun x => f x + g x) fun x => f' x + g' x := fun M hM => by
  obtain ⟨C, hC, h⟩ := h M hM
  obtain ⟨D, hD, k⟩ := k M hM
  refine ⟨C + D, by grind, fun x y hx hy => ?_⟩
  have := (h x y hx hy).add (k x y hx hy)
  have e : f y + g y - (f x + g x) - (y - x) * (f' x + g' x) = (f y - f x - (y - x) * f' x) + (g y - g x - (y - x) * g' x) := by grind
  have e2 : (C + D) * ((y - x) * (y - x)) = C * ((y - x) * (y - x)) + D * ((y - x) * (y - x)) := by grind
  rw [e, e2]
  exact this
theorem HasD.congr {f f' g g' : Rat → Rat} (h : HasD f f') (e : ∀ x, g x = f x) (e' : ∀ x, g' x = f' x) : HasD g g' := fun M hM => by
  obtain ⟨C, hC, h⟩ := h M hM
  exact ⟨C, hC, fun x y hx hy => by rw [e, e, e']; exact h x y hx hy⟩
/-- two points near: the difference of values -/
theorem HasD.lip {f f' : Rat → Rat} (h : HasD f f') (b : Pf f') (M : Rat) (hM : 0 ≤ M) : ∃ K, 0 ≤ K ∧ ∀ x y, Ab x M → Ab y M → x ≤ y → Ab (f y - f x) (K * (y - x)) := by
  obtain ⟨C, hC, h⟩ := h M hM
  obtain ⟨B, hB, b⟩ := b.bound M hM
  refine ⟨C * (M + M) + B, ?_, fun x y hx hy hxy => ?_⟩
  · have := Rat.mul_nonneg hC (show 0 ≤ M + M by grind)
    grind
  · have h1 := h x y hx hy
    have hd : Ab (y - x) (y - x) := ⟨by grind, by grind⟩
    have h2 := hd.mul (b x hx)
    have h3 := h1.add h2
    have e : f y - f x - (y - x) * f' x + (y - x) * f' x = f y - f x := by grind
    rw [e] at h3
    refine h3.mono ?_
    have h4 : y - x ≤ M + M := by
      obtain ⟨_, _⟩ := hx
      obtain ⟨_, _⟩ := hy
      grind
    have h5 : 0 ≤ (y - x) * (M + M - (y - x)) := Rat.mul_nonneg (by grind) (by grind)
    have h6 : 0 ≤ C * ((y - x) * (M + M - (y - x))) := Rat.mul_nonneg hC h5
    grind
theorem HasD.mul {f f' g g' : Rat → Rat} (h : HasD f f') (k : HasD g g') (pf : Pf f) (pg : Pf g) (pf' : Pf f') (pg' : Pf g') : HasD (fun x => f x * g x) fun x => f' x * g x + f x * g' x := fun M hM => by
  obtain ⟨C, hC, h⟩ := h M hM
  obtain ⟨D, hD, k⟩ := k M hM
  obtain ⟨F, hF, bf⟩ := pf.bound M hM
  obtain ⟨G, hG, bg⟩ := pg.bound M hM
  obtain ⟨F', hF', bf'⟩ := pf'.bound M hM
  obtain ⟨G', hG', bg'⟩ := pg'.bound M hM
  refine ⟨C * G + F * D + F' * (D * (M + M)) + F' * G', ?_, fun x y hx hy => ?_⟩
  · have := Rat.mul_nonneg hC hG
    have := Rat.mul_nonneg hF hD
    have := Rat.mul_nonneg hF' (Rat.mul_nonneg hD (show 0 ≤ M + M by grind))
    have := Rat.mul_nonneg hF' hG'
    grind
  · have hu := h x y hx hy
    have hv := k x y hx hy
    have hsq := sq_nn (y - x)
    -- f y g y - f x g x - d (f' g + f g') = (f y - f x - d f') g y + f x (g y - g x - d g') + d f' (g y - g x - d g') + d f' d g'
    have hd : Ab (y - x) (M + M) := hy.sub hx
    have t1 := hu.mul (bg y hy)
    have t2 := (bf x hx).mul hv
    have t3 := ((bf' x hx).mul (hd.mul hv))
    have t4 : Ab ((f' x * g' x) * ((y - x) * (y - x))) ((F' * G') * ((y - x) * (y - x))) := ((bf' x hx).mul (bg' x hx)).mul ⟨by grind, by grind⟩
    have e : f y * g y - f x * g x - (y - x) * (f' x * g x + f x * g' x) = (f y - f x - (y - x) * f' x) * g y + f x * (g y - g x - (y - x) * g' x) + f' x * ((y - x) * (g y - g x - (y - x) * g' x)) + (f' x * g' x) * ((y - x) * (y - x)) := by grind
    rw [e]
    refine (((t1.add t2).add t3).add t4).mono ?_
    grind
theorem HasD.unique {f f1 f2 : Rat → Rat} (h : HasD f f1) (k : HasD f f2) (x : Rat) : f1 x = f2 x := by
  obtain ⟨A, hA, hx⟩ := Ab.self (x := x)
  obtain ⟨C, hC, h⟩ := h (A + 1) (by grind)
  obtain ⟨D, hD, k⟩ := k (A + 1) (by grind)
  have hx1 : Ab x (A + 1) := hx.mono (by grind)
  have := eq_zero_of (a := f1 x - f2 x) (B := D + C) (by grind) fun t h1 h2 => by
    have hy : Ab (x + t) (A + 1) := hx.add ⟨by grind, h2⟩
    have a1 := h x (x + t) hx1 hy
    have a2 := k x (x + t) hx1 hy
    have a3 := a2.sub a1
    have e : f (x + t) - f x - (x + t - x) * f2 x - (f (x + t) - f x - (x + t - x) * f1 x) = t * (f1 x - f2 x) := by grind
    have e2 : D * ((x + t - x) * (x + t - x)) + C * ((x + t - x) * (x + t - x)) = t * (t * (D + C)) := by grind
    rw [e, e2] at a3
    obtain ⟨b1, b2⟩ := a3
    have cmul : ∀ z w : Rat, t * z ≤ t * w → z ≤ w := fun z w hzw => by
      by_cases hle : z ≤ w
      · exact hle
      · have := Rat.mul_pos h1 (show 0 < z - w by grind)
        grind
    exact ⟨cmul _ _ (by grind), cmul _ _ b2⟩
  grind
end Mf
end

-- text A3
section
set_option autoImplicit false
set_option linter.all false
/-! A3: sign changes along a row, in a fine cell. -/
namespace Mf
/-! ### signs -/
def sg (x : Rat) : Int := (if 0 < x then 1 else 0) - (if x < 0 then 1 else 0)
theorem sg_pos {x : Rat} (h : 0 < x) : sg x = 1 := by
  unfold sg
  rw [if_pos h, if_neg (by grind)]
  rfl
theorem sg_neg {x : Rat} (h : x < 0) : sg x = -1 := by
  unfold sg
  rw [if_neg (by grind), if_pos h]
  rfl
theorem sg_zero : sg 0 = 0 := rfl
theorem sg_cases (x : Rat) : (0 < x ∧ sg x = 1) ∨ (x < 0 ∧ sg x = -1) ∨ (x = 0 ∧ sg x = 0) := by
  by_cases h : 0 < x
  · exact .inl ⟨h, sg_pos h⟩
  · by_cases h2 : x < 0
    · exact .inr (.inl ⟨h2, sg_neg h2⟩)
    · have : x = 0 := by grind
      exact .inr (.inr ⟨this, by rw [this]; rfl⟩)
theorem sg_ne {x : Rat} : sg x ≠ 0 ↔ x ≠ 0 := by
  rcases sg_cases x with ⟨h, e⟩ | ⟨h, e⟩ | ⟨h, e⟩
  · rw [e]; exact ⟨fun _ => by grind, fun _ => by decide⟩
  · rw [e]; exact ⟨fun _ => by grind, fun _ => by decide⟩
  · rw [e, h]
    exact ⟨fun z => absurd rfl z, fun z => absurd rfl z⟩
def isS (x : Int) : Prop := x = 1 ∨ x = -1 ∨ x = 0
theorem sg_isS (x : Rat) : isS (sg x) := by
  rcases sg_cases x with ⟨_, e⟩ | ⟨_, e⟩ | ⟨_, e⟩ <;> rw [e]
  · exact .inl rfl
  · exact .inr (.inl rfl)
  · exact .inr (.inr rfl)
/-! ### changes of a list of signs -/
def chg : List Int → Int
  | [] => 0
  | [_] => 0
  | a :: b :: r => (if a ≠ b then 1 else 0) + chg (b :: r)
def vv (s : List Int) : Int := chg (s.filter fun x => x ≠ 0)
theorem vv_head {x y : Int} {s : List Int} (hy : y ≠ 0) : vv (x :: y :: s) = (if x ≠ 0 ∧ x ≠ y then 1 else 0) + vv (y :: s) := by
  unfold vv
  by_cases hx : x = 0
  · subst hx
    rw [List.filter_cons_of_neg (by simp), if_neg (by simp)]
    omega
  · rw [List.filter_cons_of_pos (by simp [hx]), List.filter_cons_of_pos (by simp [hy])]
    show (if x ≠ y then 1 else 0) + chg (y :: _) = _
    by_cases hxy : x = y
    · rw [if_neg (by simp [hxy]), if_neg (by simp [hxy])]
    · rw [if_pos hxy, if_pos ⟨hx, hxy⟩]
theorem vv_zero {s : List Int} : vv (0 :: s) = vv s := by
  unfold vv
  rw [List.filter_cons_of_neg (by simp)]
theorem vv_flip {x a : Int} {s : List Int} (hx : x = 1 ∨ x = -1) (ha : isS a) : vv (x :: a :: -x :: s) = 1 + vv (-x :: s) := by
  have hnx : -x ≠ 0 := by rcases hx with rfl | rfl <;> decide
  have hx0 : x ≠ 0 := by rcases hx with rfl | rfl <;> decide
  have hxn : x ≠ -x := by rcases hx with rfl | rfl <;> decide
  by_cases ha0 : a = 0
  · subst ha0
    have e : vv (x :: 0 :: -x :: s) = vv (x :: -x :: s) := by
      unfold vv
      rw [List.filter_cons_of_pos (by simp [hx0]), List.filter_cons_of_neg (by simp), List.filter_cons_of_pos (p := fun x => decide (x ≠ 0)) (l := -x :: s) (by simp [hx0])]
    rw [e, vv_head hnx, if_pos ⟨hx0, hxn⟩]
  · rw [vv_head ha0, vv_head hnx]
    rcases hx with rfl | rfl <;> rcases ha with rfl | rfl | rfl <;> first | exact absurd rfl ha0 | (simp)
/-- two sign lists, their first ones the same and not 0, that change alike -/
inductive Cel : List Int → List Int → Prop where
  | one {x : Int} (h : x ≠ 0) : Cel [x] [x]
  | same {x y : Int} {s t : List Int} (h : x ≠ 0) (hy : y ≠ 0) (k : Cel (y :: s) (y :: t)) : Cel (x :: y :: s) (x :: y :: t)
  | flip {x a b : Int} {s t : List Int} (h : x = 1 ∨ x = -1) (ha : isS a) (hb : isS b) (k : Cel (-x :: s) (-x :: t)) : Cel (x :: a :: -x :: s) (x :: b :: -x :: t)
theorem Cel.eq {s t : List Int} (h : Cel s t) : vv s = vv t := by
  induction h with
  | one _ => rfl
  | same h hy k ih => rw [vv_head hy, vv_head hy, ih]
  | flip h ha hb k ih => rw [vv_flip h ha, vv_flip h hb, ih]
/-! ### rows of functions -/
inductive RowF : List (Rat → Rat) → Prop where
  | one {f : Rat → Rat} (c : Rat) (hc : c ≠ 0) (h : ∀ x, f x = c) : RowF [f]
  | two {f g : Rat → Rat} (l : List Rat) (hf : ∀ x, f x = ev l x) (c : Rat) (hc : c ≠ 0) (h : ∀ x, g x = c) : RowF [f, g]
  | step {f g h : Rat → Rat} {r : List (Rat → Rat)} (l Q : List Rat) (al : Rat) (hf : ∀ x, f x = ev l x) (ha : 0 < al) (he : ∀ x, al * f x = ev Q x * g x - h x) (k : RowF (g :: h :: r)) : RowF (f :: g :: h :: r)
def Lt (x B : Rat) : Prop := -B < x ∧ x < B
theorem Ab.lt {x A B : Rat} (h : Ab x A) (k : A < B) : Lt x B := by
  obtain ⟨_, _⟩ := h
  exact ⟨by grind, by grind⟩
def sgs (fs : List (Rat → Rat)) (x : Rat) : List Int := fs.map fun f => sg (f x)
def Fine (M d : Rat) : List (Rat → Rat) → Prop
  | [] => True
  | f :: r => ∀ a b, Ab a M → Ab b M → a < b → b - a < d → sg (f a) = sg (f b) → sg (f a) ≠ 0 → Cel (sgs (f :: r) a) (sgs (f :: r) b)
def Sep (M e : Rat) : List (Rat → Rat) → Prop
  | [] => True
  | [f] => ∀ x, Ab x M → ¬ Lt (f x) e
  | f :: g :: _ => ∀ x, Ab x M → ¬ (Lt (f x) e ∧ Lt (g x) e)
theorem Fine.mono {M d d' : Rat} (h : d' ≤ d) : ∀ {fs : List (Rat → Rat)}, Fine M d fs → Fine M d' fs
  | [], _ => trivial
  | f :: r, k => fun a b ha hb hab hd => k a b ha hb hab (by grind)
/-- values at a point: not the same sign, so they are small -/
theorem small_of {u v D : Rat} (h : Ab (v - u) D) (hn : ¬ (sg u = sg v ∧ sg u ≠ 0)) : Ab u D ∧ Ab v D := by
  obtain ⟨h1, h2⟩ := h
  have hD : 0 ≤ D := by grind
  rcases sg_cases u with ⟨hu, eu⟩ | ⟨hu, eu⟩ | ⟨hu, eu⟩ <;> rcases sg_cases v with ⟨hv, ev⟩ | ⟨hv, ev⟩ | ⟨hv, ev⟩ <;>
    first
    | (exfalso; apply hn; rw [eu, ev]; decide)
    | exact ⟨⟨by grind, by grind⟩, ⟨by grind, by grind⟩⟩
/-- values that are not small keep their sign -/
theorem keep_of {u v e : Rat} (h : Ab (v - u) e) (hu : ¬ Lt u e) (hv : ¬ Lt v e) (he : 0 < e) : sg u = sg v ∧ sg u ≠ 0 := by
  obtain ⟨h1, h2⟩ := h
  have nu : u ≤ -e ∨ e ≤ u := by
    by_cases h : -e < u
    · by_cases h2 : u < e
      · exact absurd ⟨h, h2⟩ hu
      · exact .inr (by grind)
    · exact .inl (by grind)
  have nv : v ≤ -e ∨ e ≤ v := by
    by_cases h : -e < v
    · by_cases h2 : v < e
      · exact absurd ⟨h, h2⟩ hv
      · exact .inr (by grind)
    · exact .inl (by grind)
  rcases nu with nu | nu <;> rcases nv with nv | nv
  · rw [sg_neg (x := u) (by grind), sg_neg (x := v) (by grind)]
    decide
  · grind
  · grind
  · rw [sg_pos (x := u) (by grind), sg_pos (x := v) (by grind)]
    decide
theorem lip_ev (l : List Rat) (M : Rat) (hM : 0 ≤ M) : ∃ K, 0 ≤ K ∧ ∀ x y, Ab x M → Ab y M → x ≤ y → Ab (ev l y - ev l x) (K * (y - x)) := by
  have key : ∀ l : List Rat, ∃ l', HasD (ev l) (ev l') := by
    intro l
    induction l with
    | nil => exact ⟨[], (HasD.const 0).congr (fun _ => rfl) fun _ => rfl⟩
    | cons a l ih =>
      obtain ⟨l', h⟩ := ih
      refine ⟨padd l (0 :: l'), ((HasD.const a).add (HasD.id.mul h Pf.id (Pf.ev l) (Pf.const 1) (Pf.ev l'))).congr (fun _ => rfl) fun x => ?_⟩
      rw [ev_padd]
      show ev l x + (0 + x * ev l' x) = 0 + (1 * ev l x + x * ev l' x)
      grind
  obtain ⟨l', h⟩ := key l
  exact h.lip (Pf.ev l') M hM
theorem RowF.pf {f : Rat → Rat} {r : List (Rat → Rat)} (h : RowF (f :: r)) : ∃ l, ∀ x, f x = ev l x := by
  cases h with
  | one c hc h => exact ⟨[c], fun x => by rw [h]; show c = c + x * 0; grind⟩
  | two l hf c hc h => exact ⟨l, hf⟩
  | step l Q al hf ha he k => exact ⟨l, hf⟩
theorem min_pos {a b : Rat} (ha : 0 < a) (hb : 0 < b) : ∃ c, 0 < c ∧ c ≤ a ∧ c ≤ b := by
  by_cases h : a ≤ b
  · exact ⟨a, ha, by grind, h⟩
  · exact ⟨b, hb, by grind, by grind⟩
/-- a width at which a multiple is below e -/
theorem width_of {K e : Rat} (hK : 0 ≤ K) (he : 0 < e) : ∃ d, 0 < d ∧ ∀ w, 0 < w → w < d → K * w < e := by
  have hp : (0 : Rat) < K + 1 := by grind
  refine ⟨e / (K + 1), by rw [Rat.div_def]; exact Rat.mul_pos he (Rat.inv_pos.mpr hp), fun w hw hwd => ?_⟩
  have h1 : e / (K + 1) * (K + 1) = e := Rat.div_mul_cancel (by grind)
  have h2 : 0 < (e / (K + 1) - w) * (K + 1) := Rat.mul_pos (by grind) hp
  grind
/-- the main step: behind a small g, f and h are not small and of opposite signs -/
theorem opp_of {al q g h f e : Rat} (ha : 0 < al) (he : al * f = q * g - h) (hq : Lt (q * g) e) (hh : ¬ Lt h e) : sg f = - sg h ∧ (sg h = 1 ∨ sg h = -1) := by
  obtain ⟨q1, q2⟩ := hq
  have nh : h ≤ -e ∨ e ≤ h := by
    by_cases h1 : -e < h
    · by_cases h2 : h < e
      · exact absurd ⟨h1, h2⟩ hh
      · exact .inr (by grind)
    · exact .inl (by grind)
  have he0 : 0 < e := by grind
  rcases nh with nh | nh
  · have hf : 0 < f := by
      by_cases h0 : 0 < f
      · exact h0
      · have := Rat.mul_nonneg (Rat.le_of_lt ha) (show 0 ≤ -f by grind)
        grind
    rw [sg_pos hf, sg_neg (x := h) (by grind)]
    exact ⟨rfl, .inr rfl⟩
  · have hf : f < 0 := by
      by_cases h0 : f < 0
      · exact h0
      · have := Rat.mul_nonneg (Rat.le_of_lt ha) (show 0 ≤ f by grind)
        grind
    rw [sg_neg hf, sg_pos (x := h) (by grind)]
    exact ⟨rfl, .inl rfl⟩
theorem row_fine (M : Rat) (hM : 0 ≤ M) {fs : List (Rat → Rat)} (h : RowF fs) : ∃ d e, 0 < d ∧ 0 < e ∧ Fine M d fs ∧ Fine M d fs.tail ∧ Sep M e fs := by
  induction h with
  | one c hc h =>
    obtain ⟨e, he, hce⟩ : ∃ e, 0 < e ∧ ¬ Lt c e := by
      by_cases hp : 0 < c
      · exact ⟨c, hp, fun z => by have := z.2; grind⟩
      · exact ⟨-c, by grind, fun z => by have := z.1; grind⟩
    refine ⟨1, e, by grind, he, fun a b _ _ _ _ hs hn => ?_, trivial, fun x _ => by rw [h]; exact hce⟩
    show Cel [sg _] [sg _]
    rw [← hs]
    exact .one hn
  | @two f g l hf c hc h =>
    obtain ⟨e, he, hce⟩ : ∃ e, 0 < e ∧ ¬ Lt c e := by
      by_cases hp : 0 < c
      · exact ⟨c, hp, fun z => by have := z.2; grind⟩
      · exact ⟨-c, by grind, fun z => by have := z.1; grind⟩
    have hg : ∀ a b, sg (g a) = sg (g b) ∧ sg (g a) ≠ 0 := fun a b => by rw [h, h]; exact ⟨rfl, sg_ne.mpr hc⟩
    refine ⟨1, e, by grind, he, fun a b _ _ _ _ hs hn => ?_, fun a b _ _ _ _ hs hn => ?_, fun x _ z => hce (by rw [← h x]; exact z.2)⟩
    · show Cel [sg (f a), sg (g a)] [sg (f b), sg (g b)]
      rw [← hs, ← (hg a b).1]
      exact .same hn (hg a b).2 (.one (hg a b).2)
    · show Cel [sg (g a)] [sg (g b)]
      rw [← hs]
      exact .one hn
  | @step f g h r l Q al hf ha he k ih =>
    obtain ⟨d, e, hd, he0, f1, f2, sp⟩ := ih
    obtain ⟨lg, hg⟩ := k.pf
    obtain ⟨lh, hh⟩ : ∃ lh, ∀ x, h x = ev lh x := by
      refine ⟨padd (pmul Q lg) (psc (-al) l), fun x => ?_⟩
      have := he x
      rw [ev_padd, ev_pmul, ev_psc, ← hg, ← hf]
      grind
    obtain ⟨BQ, hBQ, bq⟩ := ev_bound M hM Q
    obtain ⟨Kg, hKg, kg⟩ := lip_ev lg M hM
    obtain ⟨Kh, hKh, kh⟩ := lip_ev lh M hM
    obtain ⟨d1, hd1, w1⟩ := width_of hKg he0
    obtain ⟨d2, hd2, w2⟩ := width_of hKh he0
    obtain ⟨d3, hd3, w3⟩ := width_of (Rat.mul_nonneg hBQ hKg) he0
    obtain ⟨d4, hd4, l1, l2⟩ := min_pos hd1 hd2
    obtain ⟨d5, hd5, l3, l4⟩ := min_pos hd3 hd4
    obtain ⟨d6, hd6, l5, l6⟩ := min_pos hd hd5
    -- separation of f and g
    obtain ⟨e', he', hs1, hs2⟩ : ∃ e', 0 < e' ∧ e' ≤ e ∧ (BQ + al) * e' ≤ e := by
      have hp : (0 : Rat) < BQ + al + 1 := by grind
      refine ⟨e / (BQ + al + 1), by rw [Rat.div_def]; exact Rat.mul_pos he0 (Rat.inv_pos.mpr hp), ?_, ?_⟩
      · have h1 : e / (BQ + al + 1) * (BQ + al + 1) = e := Rat.div_mul_cancel (by grind)
        have h2 : 0 < e / (BQ + al + 1) := by rw [Rat.div_def]; exact Rat.mul_pos he0 (Rat.inv_pos.mpr hp)
        have h3 : 0 ≤ e / (BQ + al + 1) * (BQ + al) := Rat.mul_nonneg (Rat.le_of_lt h2) (by grind)
        grind
      · have h1 : e / (BQ + al + 1) * (BQ + al + 1) = e := Rat.div_mul_cancel (by grind)
        have h2 : 0 < e / (BQ + al + 1) := by rw [Rat.div_def]; exact Rat.mul_pos he0 (Rat.inv_pos.mpr hp)
        grind
    refine ⟨d6, e', hd6, he', fun a b hA hB hab hw hs hn => ?_, f1.mono l5, fun x hx z => ?_⟩
    · have hw0 : 0 < b - a := by grind
      by_cases hsame : sg (g a) = sg (g b) ∧ sg (g a) ≠ 0
      · have hc := f1 a b hA hB hab (by grind) hsame.1 hsame.2
        show Cel (sg (f a) :: sg (g a) :: _) (sg (f b) :: sg (g b) :: _)
        have hc : Cel (sg (g a) :: sgs (h :: r) a) (sg (g b) :: sgs (h :: r) b) := hc
        rw [← hsame.1] at hc ⊢
        rw [← hs]
        exact .same hn hsame.2 hc
      · have hdg : Ab (g b - g a) (Kg * (b - a)) := by rw [hg, hg]; exact kg a b hA hB (Rat.le_of_lt hab)
        obtain ⟨sa, sb⟩ := small_of hdg hsame
        have ltw := w1 (b - a) hw0 (by grind)
        have ha1 : ¬ Lt (h a) e := fun z => sp a hA ⟨sa.lt ltw, z⟩
        have hb1 : ¬ Lt (h b) e := fun z => sp b hB ⟨sb.lt ltw, z⟩
        have hdh : Ab (h b - h a) (Kh * (b - a)) := by rw [hh, hh]; exact kh a b hA hB (Rat.le_of_lt hab)
        have hdh2 := hdh.mono (Rat.le_of_lt (w2 (b - a) hw0 (by grind)))
        obtain ⟨k1, k2⟩ := keep_of hdh2 ha1 hb1 he0
        have hqa : Lt (ev Q a * g a) e := ((bq a hA).mul sa).lt (by have := w3 (b - a) hw0 (by grind); grind)
        obtain ⟨o1, o2⟩ := opp_of ha (he a) hqa ha1
        have hc := f2 a b hA hB hab (by grind) k1 k2
        have hc : Cel (sg (h a) :: sgs r a) (sg (h b) :: sgs r b) := hc
        show Cel (sg (f a) :: sg (g a) :: sg (h a) :: sgs r a) (sg (f b) :: sg (g b) :: sg (h b) :: sgs r b)
        rw [← k1] at hc ⊢
        rw [← hs]
        have e1 : sg (h a) = - sg (f a) := by rw [o1]; omega
        rw [e1] at hc ⊢
        exact .flip (by rw [o1]; rcases o2 with z | z <;> rw [z] <;> decide) (sg_isS _) (sg_isS _) hc
    · obtain ⟨z1, z2⟩ := z
      refine sp x hx ⟨⟨by have := z2.1; grind, by have := z2.2; grind⟩, ?_⟩
      have hb1 : Ab (g x) e' := ⟨Rat.le_of_lt z2.1, Rat.le_of_lt z2.2⟩
      have hq := (bq x hx).mul hb1
      have hE := he x
      have z3 : al * f x < al * e' := by
        have := Rat.mul_pos ha (show 0 < e' - f x by have := z1.2; grind)
        grind
      have z4 : - (al * e') < al * f x := by
        have := Rat.mul_pos ha (show 0 < f x + e' by have := z1.1; grind)
        grind
      obtain ⟨q1, q2⟩ := hq
      exact ⟨by grind, by grind⟩
/-- what a fine cell shows at its two ends -/
theorem row_cell (M : Rat) (hM : 0 ≤ M) {f g : Rat → Rat} {r : List (Rat → Rat)} (h : RowF (f :: g :: r)) : ∃ d e, 0 < d ∧ 0 < e ∧ ∀ a b, Ab a M → Ab b M → a < b → b - a < d →
    (sg (f a) = sg (f b) ∧ sg (f a) ≠ 0 ∧ vv (sgs (f :: g :: r) a) = vv (sgs (f :: g :: r) b)) ∨
    (¬ Lt (g a) e ∧ sg (g a) ≠ 0 ∧ ¬ (sg (f a) = sg (f b) ∧ sg (f a) ≠ 0) ∧ ∃ n, vv (sgs (f :: g :: r) a) = (if sg (f a) ≠ 0 ∧ sg (f a) ≠ sg (g a) then 1 else 0) + n ∧ vv (sgs (f :: g :: r) b) = (if sg (f b) ≠ 0 ∧ sg (f b) ≠ sg (g a) then 1 else 0) + n) := by
  obtain ⟨d, e, hd, he, f1, f2, sp⟩ := row_fine M hM h
  obtain ⟨lf, hf⟩ := h.pf
  obtain ⟨lg, hg⟩ : ∃ lg, ∀ x, g x = ev lg x := by
    cases h with
    | two l hf c hc h => exact ⟨[c], fun x => by rw [h]; show c = c + x * 0; grind⟩
    | step l Q al hf ha he k => exact k.pf
  obtain ⟨Kf, hKf, kf⟩ := lip_ev lf M hM
  obtain ⟨Kg, hKg, kg⟩ := lip_ev lg M hM
  obtain ⟨d1, hd1, w1⟩ := width_of hKf he
  obtain ⟨d2, hd2, w2⟩ := width_of hKg he
  obtain ⟨d3, hd3, l1, l2⟩ := min_pos hd1 hd2
  obtain ⟨d4, hd4, l3, l4⟩ := min_pos hd hd3
  refine ⟨d4, e, hd4, he, fun a b hA hB hab hw => ?_⟩
  have hw0 : 0 < b - a := by grind
  by_cases hsame : sg (f a) = sg (f b) ∧ sg (f a) ≠ 0
  · exact .inl ⟨hsame.1, hsame.2, (f1 a b hA hB hab (by grind) hsame.1 hsame.2).eq⟩
  · have hdf : Ab (f b - f a) (Kf * (b - a)) := by rw [hf, hf]; exact kf a b hA hB (Rat.le_of_lt hab)
    obtain ⟨sa, sb⟩ := small_of hdf hsame
    have ltw := w1 (b - a) hw0 (by grind)
    have ha1 : ¬ Lt (g a) e := fun z => sp a hA ⟨sa.lt ltw, z⟩
    have hb1 : ¬ Lt (g b) e := fun z => sp b hB ⟨sb.lt ltw, z⟩
    have hdg : Ab (g b - g a) (Kg * (b - a)) := by rw [hg, hg]; exact kg a b hA hB (Rat.le_of_lt hab)
    obtain ⟨k1, k2⟩ := keep_of (hdg.mono (Rat.le_of_lt (w2 (b - a) hw0 (by grind)))) ha1 hb1 he
    have hc : vv (sgs (g :: r) a) = vv (sgs (g :: r) b) := (f2 a b hA hB hab (by grind) k1 k2).eq
    refine .inr ⟨ha1, k2, hsame, vv (sgs (g :: r) a), ?_, ?_⟩
    · exact vv_head k2
    · rw [hc]
      have e0 : sgs (f :: g :: r) b = sg (f b) :: sg (g b) :: sgs r b := rfl
      rw [e0, vv_head (by rw [← k1]; exact k2), ← k1]
      have e1 : sgs (g :: r) b = sg (g b) :: sgs r b := rfl
      rw [e1, k1]
end Mf
end

-- text A4
section
set_option autoImplicit false
set_option linter.all false
/-! A4: zeros as cuts; in a fine cell the changes count the zeros. -/
namespace Mf
/-! ### above, as rationals -/
def ab : Zr → Rat → Prop
  | .rat q, b => b < q
  | .root s k, b => if s = 1 then b < 0 ∨ b * b < (k : Rat) else b < 0 ∧ (k : Rat) < b * b
theorem ab_root (s k : Int) (b : Rat) : ab (.root s k) b = if s = 1 then b < 0 ∨ b * b < (k : Rat) else b < 0 ∧ (k : Rat) < b * b := rfl
theorem num_lt0 (b : Rat) : b.num < 0 ↔ b < 0 := by
  have := Rat.lt_iff b 0
  rw [this]
  simp
theorem sq_parts (b : Rat) : b * b * ((b.den : Rat) * b.den) = (b.num : Rat) * b.num := by
  have h : b * (b.den : Rat) = (b.num : Rat) := by
    have hd : (b.den : Rat) ≠ 0 := by
      have := Rat.natCast_pos.mpr b.den_pos
      grind
    have e : b = (b.num : Rat) / ((b.den : Int) : Rat) := by rw [← Rat.divInt_eq_div, Rat.num_divInt_den]
    rw [Rat.intCast_natCast] at e
    conv => lhs; lhs; rw [e]
    exact Rat.div_mul_cancel hd
  have : b * b * ((b.den : Rat) * b.den) = (b * b.den) * (b * b.den) := by grind
  rw [this, h]
theorem den_pos' (b : Rat) : (0 : Rat) < (b.den : Rat) * b.den := by
  have h : (0 : Rat) < (b.den : Rat) := by
    have := b.den_pos
    exact Rat.natCast_pos.mpr this
  exact Rat.mul_pos h h
theorem sq_lt_iff (b : Rat) (k : Int) : b.num * b.num < k * b.den * b.den ↔ b * b < (k : Rat) := by
  have h := sq_parts b
  have hp := den_pos' b
  have e : (b.num * b.num < k * b.den * b.den) ↔ ((b.num : Rat) * b.num < (k : Rat) * ((b.den : Rat) * b.den)) := by
    rw [← Rat.intCast_lt_intCast]
    simp only [Rat.intCast_mul, Rat.intCast_natCast]
    constructor <;> intro h <;> grind
  rw [e, ← h]
  constructor
  · intro hlt
    by_cases hc : b * b < (k : Rat)
    · exact hc
    · have := Rat.mul_nonneg (show 0 ≤ b * b - (k : Rat) by grind) (Rat.le_of_lt hp)
      grind
  · intro hlt
    have := Rat.mul_pos (show 0 < (k : Rat) - b * b by grind) hp
    grind
theorem lt_sq_iff (b : Rat) (k : Int) : k * b.den * b.den < b.num * b.num ↔ (k : Rat) < b * b := by
  have h := sq_parts b
  have hp := den_pos' b
  have e : (k * b.den * b.den < b.num * b.num) ↔ ((k : Rat) * ((b.den : Rat) * b.den) < (b.num : Rat) * b.num) := by
    rw [← Rat.intCast_lt_intCast]
    simp only [Rat.intCast_mul, Rat.intCast_natCast]
    constructor <;> intro h <;> grind
  rw [e, ← h]
  constructor
  · intro hlt
    by_cases hc : (k : Rat) < b * b
    · exact hc
    · have := Rat.mul_nonneg (show 0 ≤ (k : Rat) - b * b by grind) (Rat.le_of_lt hp)
      grind
  · intro hlt
    have := Rat.mul_pos (show 0 < b * b - (k : Rat) by grind) hp
    grind
theorem ab_iff (z : Zr) (b : Rat) : aboveB z b = true ↔ ab z b := by
  cases z with
  | rat q =>
    show decide (b.num * q.den < q.num * b.den) = true ↔ b < q
    rw [decide_eq_true_iff, Rat.lt_iff]
  | root s k =>
    show (if s = 1 then decide (b.num < 0) || decide (b.num * b.num < k * b.den * b.den) else decide (b.num < 0) && decide (k * b.den * b.den < b.num * b.num)) = true ↔ (if s = 1 then b < 0 ∨ b * b < (k : Rat) else b < 0 ∧ (k : Rat) < b * b)
    by_cases h : s = 1
    · rw [if_pos h, if_pos h, Bool.or_eq_true, decide_eq_true_iff, decide_eq_true_iff, num_lt0, sq_lt_iff]
    · rw [if_neg h, if_neg h, Bool.and_eq_true, decide_eq_true_iff, decide_eq_true_iff, num_lt0, lt_sq_iff]
theorem sq_mono {a b : Rat} (h : 0 ≤ a) (k : a ≤ b) : a * a ≤ b * b := by
  have := Rat.mul_nonneg (show 0 ≤ b - a by grind) (show 0 ≤ b + a by grind)
  grind
theorem ab_anti (z : Zr) {a b : Rat} (h : a < b) (k : ab z b) : ab z a := by
  cases z with
  | rat q => exact (show a < q from by have : b < q := k; grind)
  | root s k' =>
    rw [ab_root] at k ⊢
    by_cases hs : s = 1
    · rw [if_pos hs] at k ⊢
      rcases k with k | k
      · exact .inl (by grind)
      · by_cases ha : a < 0
        · exact .inl ha
        · have := sq_mono (a := a) (b := b) (by grind) (by grind)
          exact .inr (by grind)
    · rw [if_neg hs] at k ⊢
      obtain ⟨k1, k2⟩ := k
      have := sq_mono (a := -b) (b := -a) (by grind) (by grind)
      exact ⟨by grind, by grind⟩
def act (a b : Rat) (z : Zr) : Prop := ab z a ∧ ¬ ab z b
theorem inSt_iff (a b : Rat) (z : Zr) : inSt a b z = true ↔ act a b z := by
  unfold inSt act
  rw [Bool.and_eq_true, Bool.not_eq_true', ab_iff, ← Bool.not_eq_true, ab_iff]
theorem split_len (zs : List Zr) {lo mid hi : Rat} (h1 : lo < mid) (h2 : mid < hi) : (zs.filter (inSt lo mid)).length + (zs.filter (inSt mid hi)).length = (zs.filter (inSt lo hi)).length := by
  induction zs with
  | nil => rfl
  | cons z zs ih =>
    rw [List.filter_cons, List.filter_cons, List.filter_cons]
    by_cases c1 : ab z lo
    · by_cases c2 : ab z mid
      · have e1 : ¬ inSt lo mid z = true := fun h => ((inSt_iff _ _ _).mp h).2 c2
        rw [if_neg e1]
        by_cases c3 : ab z hi
        · have e2 : ¬ inSt mid hi z = true := fun h => ((inSt_iff _ _ _).mp h).2 c3
          have e3 : ¬ inSt lo hi z = true := fun h => ((inSt_iff _ _ _).mp h).2 c3
          rw [if_neg e2, if_neg e3, ih]
        · rw [if_pos ((inSt_iff _ _ _).mpr ⟨c2, c3⟩), if_pos ((inSt_iff _ _ _).mpr ⟨c1, c3⟩), List.length_cons, List.length_cons, ← ih]
          omega
      · have c3 : ¬ ab z hi := fun h => c2 (ab_anti z h2 h)
        have e2 : ¬ inSt mid hi z = true := fun h => c2 ((inSt_iff _ _ _).mp h).1
        rw [if_pos ((inSt_iff _ _ _).mpr ⟨c1, c2⟩), if_neg e2, if_pos ((inSt_iff _ _ _).mpr ⟨c1, c3⟩), List.length_cons, List.length_cons, ← ih]
        omega
    · have c2 : ¬ ab z mid := fun h => c1 (ab_anti z h1 h)
      have e1 : ¬ inSt lo mid z = true := fun h => c1 ((inSt_iff _ _ _).mp h).1
      have e2 : ¬ inSt mid hi z = true := fun h => c2 ((inSt_iff _ _ _).mp h).1
      have e3 : ¬ inSt lo hi z = true := fun h => c1 ((inSt_iff _ _ _).mp h).1
      rw [if_neg e1, if_neg e2, if_neg e3, ih]
/-! ### zeros near a cell -/
def fz : Zr → Rat → Rat
  | .rat q, x => x - q
  | .root _ k, x => x * x - (k : Rat)
def zgood : Zr → Prop
  | .rat _ => True
  | .root s k => (s = 1 ∨ s = -1) ∧ fok (.sq k)
def near (a b : Rat) (z : Zr) : Prop := act a b z ∨ fz z a = 0
theorem fok_two {k : Int} (h : fok (.sq k)) : (2 : Rat) ≤ (k : Rat) := by
  rcases h with rfl | rfl | rfl | rfl | rfl <;> decide +kernel
theorem near_of {M : Rat} (hM : 0 ≤ M) {z : Zr} (hz : zgood z) {a b : Rat} (hA : Ab a M) (hB : Ab b M) (hab : a < b) (hw : b - a < 1) (h : near a b z) : Ab (fz z a) ((M + M + 1) * (b - a)) := by
  obtain ⟨a1, a2⟩ := hA
  obtain ⟨b1, b2⟩ := hB
  have hw0 : 0 ≤ (M + M) * (b - a) := Rat.mul_nonneg (by grind) (by grind)
  rcases h with ⟨h1, h2⟩ | h
  · cases z with
    | rat q =>
      have h1 : a < q := h1
      have h2 : ¬ b < q := h2
      show Ab (a - q) _
      exact ⟨by grind, by grind⟩
    | root s k =>
      obtain ⟨hs, hk⟩ := hz
      have k2 := fok_two hk
      rw [ab_root] at h1 h2
      show Ab (a * a - (k : Rat)) _
      by_cases e : s = 1
      · rw [if_pos e] at h1 h2
        have hb0 : 0 ≤ b := by grind
        have hbk : (k : Rat) ≤ b * b := by grind
        have hb1 : 1 < b := by
          by_cases h : 1 < b
          · exact h
          · have := sq_mono (a := b) (b := 1) hb0 (by grind)
            grind
        have ha0 : 0 < a := by grind
        have hak : a * a < (k : Rat) := by grind
        have := Rat.mul_nonneg (show 0 ≤ b - a by grind) (show 0 ≤ M + M - (b + a) by grind)
        exact ⟨by grind, by grind⟩
      · rw [if_neg e] at h1 h2
        obtain ⟨ha0, hak⟩ := h1
        have ha1 : a < -1 := by
          by_cases h : a < -1
          · exact h
          · have := sq_mono (a := -a) (b := 1) (by grind) (by grind)
            grind
        have hb0 : b < 0 := by grind
        have hbk : b * b ≤ (k : Rat) := by grind
        have := Rat.mul_nonneg (show 0 ≤ b - a by grind) (show 0 ≤ M + M + (b + a) by grind)
        exact ⟨by grind, by grind⟩
  · rw [h]
    exact Ab.zero (Rat.mul_nonneg (by grind) (by grind))
theorem sq_ne_fok {q : Rat} {k : Int} (h : fok (.sq k)) : q * q ≠ (k : Rat) := by
  intro e
  have h1 := sq_parts q
  rw [e] at h1
  have h2 : k * (q.den * q.den) = q.num * q.num := by
    have : ((k * (q.den * q.den) : Int) : Rat) = ((q.num * q.num : Int) : Rat) := by
      simp only [Rat.intCast_mul, Rat.intCast_natCast]
      exact h1
    exact Rat.intCast_inj.mp this
  have hc := q.reduced
  have hden : q.den = 1 := by
    have h3 : (q.den * q.den : Nat) ∣ (q.num.natAbs * q.num.natAbs : Nat) := by
      refine ⟨k.natAbs, ?_⟩
      have := congrArg Int.natAbs h2
      rw [Int.natAbs_mul, Int.natAbs_mul, Int.natAbs_mul, Int.natAbs_natCast] at this
      rw [← this, Nat.mul_comm]
    have h4 : Nat.Coprime (q.num.natAbs * q.num.natAbs) (q.den * q.den) := Nat.Coprime.mul_left (Nat.Coprime.mul_right hc hc) (Nat.Coprime.mul_right hc hc)
    have h5 : q.den * q.den = 1 := Nat.Coprime.eq_one_of_dvd h4.symm h3
    exact Nat.eq_one_of_mul_eq_one_left h5
  rw [hden] at h2
  have h3 : k = q.num * q.num := by simpa using h2
  have hn : ∀ n : Int, n * n = k → False := by
    intro n hn
    have hb : -4 < n ∧ n < 4 := by
      have hk10 : k ≤ 10 := by rcases h with rfl | rfl | rfl | rfl | rfl <;> decide
      constructor
      · by_cases c : -4 < n
        · exact c
        · have := Int.mul_le_mul (show (4 : Int) ≤ -n by omega) (show (4 : Int) ≤ -n by omega) (by decide) (by omega)
          rw [Int.neg_mul_neg] at this
          omega
      · by_cases c : n < 4
        · exact c
        · have := Int.mul_le_mul (show (4 : Int) ≤ n by omega) (show (4 : Int) ≤ n by omega) (by decide) (by omega)
          omega
    obtain ⟨c1, c2⟩ := hb
    have : n = -3 ∨ n = -2 ∨ n = -1 ∨ n = 0 ∨ n = 1 ∨ n = 2 ∨ n = 3 := by omega
    rcases this with rfl | rfl | rfl | rfl | rfl | rfl | rfl <;> rcases h with rfl | rfl | rfl | rfl | rfl <;> exact absurd hn (by decide)
  exact hn q.num h3.symm
end Mf
end

-- text A5
section
set_option autoImplicit false
set_option linter.all false
/-! A5: zeros apart; the count of a cell, of a stretch. -/
namespace Mf
theorem abs_pos {x : Rat} (h : x ≠ 0) : ∃ e, 0 < e ∧ ∀ B, Ab x B → e ≤ B := by
  by_cases hp : 0 < x
  · exact ⟨x, hp, fun B hB => hB.2⟩
  · exact ⟨-x, by grind, fun B hB => by have := hB.1; grind⟩
/-- values of two polynomials of the zeros, not both small -/
theorem apart_val {M : Rat} (hM : 0 ≤ M) {z z' : Zr} (hz : zgood z) (hz' : zgood z') (hne : ∀ x, fz z x - fz z' x ≠ 0 ∨ True) (hd : ∃ A B c, 0 ≤ A ∧ 0 ≤ B ∧ c ≠ 0 ∧ ∀ a, Ab a M → ∃ u v, Ab u A ∧ Ab v B ∧ u * fz z a + v * fz z' a = c) :
    ∃ d, 0 < d ∧ ∀ a b, Ab a M → Ab b M → a < b → b - a < d → ¬ (near a b z ∧ near a b z') := by
  obtain ⟨A, B, c, hA, hB, hc, hh⟩ := hd
  obtain ⟨e, he, hmin⟩ := abs_pos hc
  obtain ⟨d, hd, w⟩ := width_of (K := (A + B) * (M + M + 1)) (Rat.mul_nonneg (by grind) (by grind)) he
  obtain ⟨d', hd', l1, l2⟩ := min_pos hd (show (0 : Rat) < 1 by decide +kernel)
  refine ⟨d', hd', fun a b ha hb hab hw ⟨n1, n2⟩ => ?_⟩
  obtain ⟨u, v, hu, hv, huv⟩ := hh a ha
  have s1 := near_of hM hz ha hb hab (by grind) n1
  have s2 := near_of hM hz' ha hb hab (by grind) n2
  have := (hu.mul s1).add (hv.mul s2)
  rw [huv] at this
  have h1 := hmin _ this
  have h2 := w (b - a) (by grind) (by grind)
  grind
theorem apart_of {M : Rat} (hM : 0 ≤ M) {z z' : Zr} (hz : zgood z) (hz' : zgood z') (hne : z ≠ z') : ∃ d, 0 < d ∧ ∀ a b, Ab a M → Ab b M → a < b → b - a < d → ¬ (near a b z ∧ near a b z') := by
  have t : ∀ x, fz z x - fz z' x ≠ 0 ∨ True := fun _ => .inr trivial
  have a1 : Ab 1 1 := ⟨by decide +kernel, by decide +kernel⟩
  have am : Ab (-1) 1 := ⟨by decide +kernel, by decide +kernel⟩
  have p1 : (0 : Rat) ≤ 1 := by decide +kernel
  cases z with
  | rat q =>
    cases z' with
    | rat r =>
      have hqr : r - q ≠ 0 := fun h => hne (by have : q = r := by grind
                                               rw [this])
      refine apart_val hM hz hz' t ⟨1, 1, r - q, p1, p1, hqr, fun a _ => ⟨1, -1, a1, am, ?_⟩⟩
      show 1 * (a - q) + -1 * (a - r) = r - q
      grind
    | root s k =>
      have hq : q * q - (k : Rat) ≠ 0 := fun h => sq_ne_fok hz'.2 (q := q) (by grind)
      obtain ⟨Q, hQ, hq2⟩ := Ab.self (x := q)
      refine apart_val hM hz hz' t ⟨M + Q, 1, q * q - (k : Rat), by grind, p1, hq, fun a ha => ⟨-(a + q), 1, (ha.add hq2).neg, a1, ?_⟩⟩
      show -(a + q) * (a - q) + 1 * (a * a - (k : Rat)) = q * q - (k : Rat)
      grind
  | root s k =>
    cases z' with
    | rat q =>
      have hq : q * q - (k : Rat) ≠ 0 := fun h => sq_ne_fok hz.2 (q := q) (by grind)
      obtain ⟨Q, hQ, hq2⟩ := Ab.self (x := q)
      refine apart_val hM hz hz' t ⟨1, M + Q, q * q - (k : Rat), p1, by grind, hq, fun a ha => ⟨1, -(a + q), a1, (ha.add hq2).neg, ?_⟩⟩
      show 1 * (a * a - (k : Rat)) + -(a + q) * (a - q) = q * q - (k : Rat)
      grind
    | root s' k' =>
      by_cases hk : k = k'
      · subst hk
        have hs : s ≠ s' := fun h => hne (by rw [h])
        refine ⟨1, by decide +kernel, fun a b _ _ hab hw ⟨n1, n2⟩ => ?_⟩
        have k2 := fok_two hz.2
        have nz : ¬ a * a - (k : Rat) = 0 := fun h => sq_ne_fok hz.2 (q := a) (by grind)
        have n1 : act a b (.root s k) := n1.elim id fun h => absurd h nz
        have n2 : act a b (.root s' k) := n2.elim id fun h => absurd h nz
        have key : ∀ a b : Rat, a < b → b - a < 1 → act a b (.root 1 k) → act a b (.root (-1) k) → False := fun a b hab hw m1 m2 => by
          obtain ⟨_, m1⟩ := m1
          obtain ⟨m2, _⟩ := m2
          rw [ab_root, if_pos rfl] at m1
          rw [ab_root, if_neg (by decide)] at m2
          have hb0 : 0 ≤ b := by grind
          have hb1 : 1 < b := by
            by_cases h : 1 < b
            · exact h
            · have := sq_mono (a := b) (b := 1) hb0 (by grind)
              grind
          grind
        rcases hz.1 with rfl | rfl <;> rcases hz'.1 with rfl | rfl
        · exact absurd rfl hs
        · exact key a b hab hw n1 n2
        · exact key a b hab hw n2 n1
        · exact absurd rfl hs
      · have hkk : (k' : Rat) - (k : Rat) ≠ 0 := fun h => hk (Rat.intCast_inj.mp (by grind))
        refine apart_val hM hz hz' t ⟨1, 1, (k' : Rat) - (k : Rat), p1, p1, hkk, fun a _ => ⟨1, -1, a1, am, ?_⟩⟩
        show 1 * (a * a - (k : Rat)) + -1 * (a * a - (k' : Rat)) = (k' : Rat) - (k : Rat)
        grind
theorem all_width {α : Type} (Pr : α → Rat → Prop) (mono : ∀ x d d', Pr x d → d' ≤ d → Pr x d') : ∀ l : List α, (∀ x ∈ l, ∃ d, 0 < d ∧ Pr x d) → ∃ d, 0 < d ∧ ∀ x ∈ l, Pr x d
  | [], _ => ⟨1, by decide +kernel, fun x h => by simp at h⟩
  | a :: l, h => by
    obtain ⟨d1, hd1, h1⟩ := h a List.mem_cons_self
    obtain ⟨d2, hd2, h2⟩ := all_width Pr mono l fun x hx => h x (List.mem_cons_of_mem _ hx)
    obtain ⟨d, hd, l1, l2⟩ := min_pos hd1 hd2
    refine ⟨d, hd, fun x hx => ?_⟩
    rcases List.mem_cons.mp hx with rfl | hx
    · exact mono _ _ _ h1 l1
    · exact mono _ _ _ (h2 x hx) l2
def Apart (M : Rat) (z z' : Zr) (d : Rat) : Prop := ∀ a b, Ab a M → Ab b M → a < b → b - a < d → ¬ (near a b z ∧ near a b z')
theorem all_apart {M : Rat} (hM : 0 ≤ M) (zs : List Zr) (hz : ∀ z ∈ zs, zgood z) : ∃ d, 0 < d ∧ ∀ z ∈ zs, ∀ z' ∈ zs, z ≠ z' → Apart M z z' d := by
  refine all_width (fun z d => ∀ z' ∈ zs, z ≠ z' → Apart M z z' d) (fun z d d' h hd z' hz' hne a b ha hb hab hw => h z' hz' hne a b ha hb hab (by grind)) zs fun z hzm => ?_
  obtain ⟨d, hd, h⟩ := all_width (fun z' d => z ≠ z' → Apart M z z' d) (fun z' d d' h hd hne a b ha hb hab hw => h hne a b ha hb hab (by grind)) zs fun z' hz'm => by
    by_cases hne : z = z'
    · exact ⟨1, by decide +kernel, fun h => absurd hne h⟩
    · obtain ⟨d, hd, h⟩ := apart_of hM (hz z hzm) (hz z' hz'm) hne
      exact ⟨d, hd, fun _ => h⟩
  exact ⟨d, hd, h⟩
/-! ### signs -/
def sgz (z : Zr) (x : Rat) : Int := match z with
  | .rat q => sg (x - q)
  | .root s k => if aboveB (.root s k) x = true then -1 else 1
def psz (zs : List Zr) (x : Rat) : Int := (zs.map fun z => sgz z x).foldr (· * ·) 1
theorem sgz_isS (z : Zr) (x : Rat) : isS (sgz z x) := by
  cases z with
  | rat q => exact sg_isS _
  | root s k =>
    show isS (if aboveB (.root s k) x = true then -1 else 1)
    split
    · exact .inr (.inl rfl)
    · exact .inl rfl
theorem sgz_far {a b : Rat} {z : Zr} (hab : a < b) (h : ¬ near a b z) : sgz z a = sgz z b ∧ sgz z a ≠ 0 := by
  have h1 : ¬ act a b z := fun k => h (.inl k)
  have h2 : fz z a ≠ 0 := fun k => h (.inr k)
  cases z with
  | rat q =>
    have h2 : a - q ≠ 0 := h2
    show sg (a - q) = sg (b - q) ∧ sg (a - q) ≠ 0
    by_cases c : a < q
    · have cb : b < q := by
        by_cases cb : b < q
        · exact cb
        · exact absurd ⟨c, cb⟩ h1
      rw [sg_neg (x := a - q) (by grind), sg_neg (x := b - q) (by grind)]
      decide
    · rw [sg_pos (x := a - q) (by grind), sg_pos (x := b - q) (by grind)]
      decide
  | root s k =>
    show (if aboveB (.root s k) a = true then (-1 : Int) else 1) = (if aboveB (.root s k) b = true then (-1 : Int) else 1) ∧ (if aboveB (.root s k) a = true then (-1 : Int) else 1) ≠ 0
    by_cases c : ab (.root s k) a
    · have cb : ab (.root s k) b := by
        by_cases cb : ab (.root s k) b
        · exact cb
        · exact absurd ⟨c, cb⟩ h1
      rw [if_pos ((ab_iff _ _).mpr c), if_pos ((ab_iff _ _).mpr cb)]
      decide
    · have cb : ¬ ab (.root s k) b := fun z => c (ab_anti _ hab z)
      rw [if_neg (fun z => c ((ab_iff _ _).mp z)), if_neg (fun z => cb ((ab_iff _ _).mp z))]
      decide
theorem sgz_act {a b : Rat} {z : Zr} (h : act a b z) : sgz z a = -1 ∧ (sgz z b = 1 ∨ sgz z b = 0) := by
  obtain ⟨h1, h2⟩ := h
  cases z with
  | rat q =>
    have h1 : a < q := h1
    have h2 : ¬ b < q := h2
    refine ⟨sg_neg (x := a - q) (by grind), ?_⟩
    show sg (b - q) = 1 ∨ sg (b - q) = 0
    by_cases c : b = q
    · rw [c, show q - q = 0 by grind]; exact .inr rfl
    · exact .inl (sg_pos (by grind))
  | root s k =>
    show (if aboveB (.root s k) a = true then (-1 : Int) else 1) = -1 ∧ ((if aboveB (.root s k) b = true then (-1 : Int) else 1) = 1 ∨ _)
    rw [if_pos ((ab_iff _ _).mpr h1), if_neg (fun z => h2 ((ab_iff _ _).mp z))]
    exact ⟨rfl, .inl rfl⟩
theorem sgz_at {a b : Rat} {z : Zr} (hab : a < b) (hz : zgood z) (h : near a b z) (hn : ¬ act a b z) : sgz z a = 0 ∧ sgz z b = 1 := by
  have h : fz z a = 0 := h.elim (fun k => absurd k hn) id
  cases z with
  | rat q =>
    have h : a - q = 0 := h
    exact ⟨by show sg (a - q) = 0; rw [h]; rfl, sg_pos (x := b - q) (by grind)⟩
  | root s k =>
    exact absurd (show a * a = (k : Rat) by have h : a * a - (k : Rat) = 0 := h; grind) (sq_ne_fok hz.2)
theorem isS_mul {x y : Int} (hx : isS x) (hy : isS y) : isS (x * y) := by
  rcases hx with rfl | rfl | rfl <;> rcases hy with rfl | rfl | rfl <;> (unfold isS; decide)
end Mf
end

-- text A6
section
set_option autoImplicit false
set_option linter.all false
/-! A6: changes at the ends of a stretch count the zeros in it. -/
namespace Mf
theorem psz_cons (z : Zr) (zs : List Zr) (x : Rat) : psz (z :: zs) x = sgz z x * psz zs x := rfl
theorem psz_isS (zs : List Zr) (x : Rat) : isS (psz zs x) := by
  induction zs with
  | nil => exact .inl rfl
  | cons z zs ih => rw [psz_cons]; exact isS_mul (sgz_isS z x) ih
theorem psz_far {a b : Rat} (hab : a < b) (zs : List Zr) (h : ∀ z ∈ zs, ¬ near a b z) : psz zs a = psz zs b ∧ psz zs a ≠ 0 ∧ (zs.filter (inSt a b)).length = 0 := by
  induction zs with
  | nil => exact ⟨rfl, (show (1 : Int) ≠ 0 by decide), rfl⟩
  | cons z zs ih =>
    obtain ⟨h1, h2, h3⟩ := ih fun z' hz => h z' (List.mem_cons_of_mem _ hz)
    have hz := h z List.mem_cons_self
    obtain ⟨s1, s2⟩ := sgz_far hab hz
    refine ⟨by rw [psz_cons, psz_cons, h1, s1], by rw [psz_cons]; exact Int.mul_ne_zero s2 h2, ?_⟩
    rw [List.filter_cons_of_neg (fun k => hz (.inl ((inSt_iff _ _ _).mp k)))]
    exact h3
theorem cell_cases {a b : Rat} (hab : a < b) (zs : List Zr) (nd : zs.Nodup) (hg : ∀ z ∈ zs, zgood z) (hap : ∀ z ∈ zs, ∀ z' ∈ zs, z ≠ z' → ¬ (near a b z ∧ near a b z')) :
    (psz zs a = psz zs b ∧ psz zs a ≠ 0 ∧ (zs.filter (inSt a b)).length = 0) ∨ (psz zs a ≠ 0 ∧ (psz zs b = - psz zs a ∨ psz zs b = 0) ∧ (zs.filter (inSt a b)).length = 1) ∨
    (psz zs a = 0 ∧ psz zs b ≠ 0 ∧ (zs.filter (inSt a b)).length = 0) := by
  induction zs with
  | nil => exact .inl ⟨rfl, (show (1 : Int) ≠ 0 by decide), rfl⟩
  | cons z zs ih =>
    rw [List.nodup_cons] at nd
    by_cases hn : near a b z
    · obtain ⟨f1, f2, f3⟩ := psz_far hab zs fun z' hz' hn' => hap z List.mem_cons_self z' (List.mem_cons_of_mem _ hz') (fun e => nd.1 (by rw [e]; exact hz')) ⟨hn, hn'⟩
      by_cases ha : act a b z
      · obtain ⟨s1, s2⟩ := sgz_act ha
        refine .inr (.inl ⟨by rw [psz_cons, s1]; exact Int.mul_ne_zero (by decide) f2, ?_, ?_⟩)
        · rw [psz_cons, psz_cons, s1, ← f1]
          rcases s2 with s2 | s2 <;> rw [s2]
          · left; omega
          · right; omega
        · rw [List.filter_cons_of_pos ((inSt_iff _ _ _).mpr ha), List.length_cons, f3]
      · obtain ⟨s1, s2⟩ := sgz_at hab (hg z List.mem_cons_self) hn ha
        refine .inr (.inr ⟨by rw [psz_cons, s1, Int.zero_mul], by rw [psz_cons, s2, Int.one_mul, ← f1]; exact f2, ?_⟩)
        rw [List.filter_cons_of_neg (fun k => ha ((inSt_iff _ _ _).mp k))]
        exact f3
    · obtain ⟨s1, s2⟩ := sgz_far hab hn
      have ih := ih nd.2 (fun z' hz => hg z' (List.mem_cons_of_mem _ hz)) fun z' hz z'' hz' => hap z' (List.mem_cons_of_mem _ hz) z'' (List.mem_cons_of_mem _ hz')
      rw [psz_cons, psz_cons, ← s1, List.filter_cons_of_neg (fun k => hn (.inl ((inSt_iff _ _ _).mp k)))]
      rcases ih with ⟨h1, h2, h3⟩ | ⟨h1, h2, h3⟩ | ⟨h1, h2, h3⟩
      · exact .inl ⟨by rw [h1], Int.mul_ne_zero s2 h2, h3⟩
      · refine .inr (.inl ⟨Int.mul_ne_zero s2 h1, ?_, h3⟩)
        rcases h2 with h2 | h2 <;> rw [h2]
        · left; rw [Int.mul_neg]
        · right; rw [Int.mul_zero]
      · exact .inr (.inr ⟨by rw [h1, Int.mul_zero], Int.mul_ne_zero s2 h2, h3⟩)
theorem sg_mul_pos {k x : Rat} (hk : 0 < k) : sg (k * x) = sg x := by
  rcases sg_cases x with ⟨h, e⟩ | ⟨h, e⟩ | ⟨h, e⟩
  · rw [e]; exact sg_pos (Rat.mul_pos hk h)
  · have := Rat.mul_pos hk (show 0 < -x by grind)
    rw [e]; exact sg_neg (by grind)
  · rw [e, h]
    have : k * 0 = 0 := by grind
    rw [this]; rfl
theorem pos_of_mul {k x : Rat} (hk : 0 < k) (h : 0 < k * x) : 0 < x := by
  by_cases hx : 0 < x
  · exact hx
  · have := Rat.mul_nonneg (Rat.le_of_lt hk) (show 0 ≤ -x by grind)
    grind
theorem dir_of {k1 C w e u v du gu : Rat} (hk1 : 0 < k1) (hw0 : 0 < w) (hg : gu = k1 * du) (hdr : Ab (v - u - w * du) (C * (w * w))) (hw3 : k1 * C * w < e) (c1 : ¬ Lt gu e) : (sg gu = 1 ∧ u < v) ∨ (sg gu = -1 ∧ v < u) := by
  obtain ⟨q1, q2⟩ := hdr
  have q3 : 0 < e * w - k1 * C * w * w := by
    have := Rat.mul_pos (show 0 < e - k1 * C * w by grind) hw0
    have e1 : (e - k1 * C * w) * w = e * w - k1 * C * w * w := by grind
    rwa [e1] at this
  have r1 : 0 ≤ k1 * (v - u - w * du) + k1 * C * w * w := by
    have := Rat.mul_nonneg (Rat.le_of_lt hk1) (show 0 ≤ v - u - w * du + C * (w * w) by grind)
    have e1 : k1 * (v - u - w * du + C * (w * w)) = k1 * (v - u - w * du) + k1 * C * w * w := by grind
    rwa [e1] at this
  have r2 : 0 ≤ k1 * C * w * w - k1 * (v - u - w * du) := by
    have := Rat.mul_nonneg (Rat.le_of_lt hk1) (show 0 ≤ C * (w * w) - (v - u - w * du) by grind)
    have e1 : k1 * (C * (w * w) - (v - u - w * du)) = k1 * C * w * w - k1 * (v - u - w * du) := by grind
    rwa [e1] at this
  have E : k1 * (v - u) = w * gu + k1 * (v - u - w * du) := by rw [hg]; grind
  have E2 : k1 * (u - v) = - (w * gu) - k1 * (v - u - w * du) := by rw [hg]; grind
  generalize k1 * (v - u - w * du) = X at r1 r2 E E2
  generalize k1 * C * w * w = T at q3 r1 r2
  have ew : 0 < e * w := by grind
  have he : 0 < e := pos_of_mul hw0 (by rw [Rat.mul_comm]; exact ew)
  by_cases h1 : -e < gu
  · by_cases h2 : gu < e
    · exact absurd ⟨h1, h2⟩ c1
    · have r3 : 0 ≤ w * gu - e * w := by
        have := Rat.mul_nonneg (Rat.le_of_lt hw0) (show 0 ≤ gu - e by grind)
        have e1 : w * (gu - e) = w * gu - e * w := by grind
        rwa [e1] at this
      refine .inl ⟨sg_pos (by grind), ?_⟩
      have := pos_of_mul hk1 (x := v - u) (by rw [E]; grind)
      grind
  · have r3 : 0 ≤ - (w * gu) - e * w := by
      have := Rat.mul_nonneg (Rat.le_of_lt hw0) (show 0 ≤ -e - gu by grind)
      have e1 : w * (-e - gu) = - (w * gu) - e * w := by grind
      rwa [e1] at this
    refine .inr ⟨sg_neg (by grind), ?_⟩
    have := pos_of_mul hk1 (x := u - v) (by rw [E2]; grind)
    grind
theorem vcase1 {x y : Rat} {t n : Int} (hdir : (t = 1 ∧ x < y) ∨ (t = -1 ∧ y < x)) (ha : sg x ≠ 0) (hb : sg y = - sg x ∨ sg y = 0) : ((if sg x ≠ 0 ∧ sg x ≠ t then 1 else 0) : Int) + n - ((if sg y ≠ 0 ∧ sg y ≠ t then 1 else 0) + n) = ((1 : Nat) : Int) := by
  rcases sg_cases x with ⟨gx, ex⟩ | ⟨gx, ex⟩ | ⟨gx, ex⟩
  · rw [ex] at hb ⊢
    rcases hdir with ⟨rfl, h⟩ | ⟨rfl, h⟩
    · have : sg y = 1 := sg_pos (by grind)
      rw [this] at hb
      exfalso
      revert hb
      decide
    · rcases hb with hb | hb <;> rw [hb] <;> simp <;> omega
  · rw [ex] at hb ⊢
    rcases hdir with ⟨rfl, h⟩ | ⟨rfl, h⟩
    · rcases hb with hb | hb <;> rw [hb] <;> simp <;> omega
    · have : sg y = -1 := sg_neg (by grind)
      rw [this] at hb
      exfalso
      revert hb
      decide
  · exact absurd ex ha
theorem vcase2 {x y : Rat} {t n : Int} (hdir : (t = 1 ∧ x < y) ∨ (t = -1 ∧ y < x)) (ha : sg x = 0) (hb : sg y ≠ 0) : ((if sg x ≠ 0 ∧ sg x ≠ t then 1 else 0) : Int) + n - ((if sg y ≠ 0 ∧ sg y ≠ t then 1 else 0) + n) = ((0 : Nat) : Int) := by
  have hx : x = 0 := by
    by_cases h : x = 0
    · exact h
    · exact absurd ha (sg_ne.mpr h)
  rw [ha]
  rcases hdir with ⟨rfl, h⟩ | ⟨rfl, h⟩
  · have : sg y = 1 := sg_pos (by grind)
    rw [this]
    simp
  · have : sg y = -1 := sg_neg (by grind)
    rw [this]
    simp
theorem sturm_cell {M : Rat} (hM : 0 ≤ M) {f g : Rat → Rat} {r : List (Rat → Rat)} (h : RowF (f :: g :: r)) {G G' : Rat → Rat} (hD : HasD G G') {k0 k1 : Rat} (hk0 : 0 < k0) (hk1 : 0 < k1) (hf : ∀ x, f x = k0 * G x) (hg : ∀ x, g x = k1 * G' x)
    {s0 : Int} (hs0 : s0 = 1 ∨ s0 = -1) (zs : List Zr) (nd : zs.Nodup) (hz : ∀ z ∈ zs, zgood z) (hs : ∀ x, sg (G x) = s0 * psz zs x) :
    ∃ d, 0 < d ∧ ∀ a b, Ab a M → Ab b M → a < b → b - a < d → vv (sgs (f :: g :: r) a) - vv (sgs (f :: g :: r) b) = ((zs.filter (inSt a b)).length : Nat) := by
  obtain ⟨d1, e, hd1, he, cell⟩ := row_cell M hM h
  obtain ⟨d2, hd2, ap⟩ := all_apart hM zs hz
  obtain ⟨C, hC, der⟩ := hD M hM
  obtain ⟨d3, hd3, w3⟩ := width_of (Rat.mul_nonneg (Rat.le_of_lt hk1) hC) he
  obtain ⟨d4, hd4, l1, l2⟩ := min_pos hd1 hd2
  obtain ⟨d, hd, l3, l4⟩ := min_pos hd3 hd4
  refine ⟨d, hd, fun a b hA hB hab hw => ?_⟩
  have hw0 : 0 < b - a := by grind
  have cc := cell_cases hab zs nd hz fun z hz z' hz' hne => ap z hz z' hz' hne a b hA hB hab (by grind)
  have sf : ∀ x, sg (f x) = s0 * psz zs x := fun x => by rw [hf, sg_mul_pos hk0, hs]
  have hs00 : s0 ≠ 0 := by rcases hs0 with rfl | rfl <;> decide
  rcases cell a b hA hB hab (by grind) with ⟨c1, c2, c3⟩ | ⟨c1, c2, c3, n, c4, c5⟩
  · rw [c3, Int.sub_self]
    rw [sf, sf] at c1
    rw [sf] at c2
    have c1 : psz zs a = psz zs b := Int.eq_of_mul_eq_mul_left hs00 c1
    rcases cc with ⟨h1, h2, h3⟩ | ⟨h1, h2, h3⟩ | ⟨h1, h2, h3⟩
    · rw [h3]; rfl
    · exfalso
      rcases h2 with h2 | h2
      · rw [← c1] at h2; omega
      · rw [← c1] at h2; exact h1 h2
    · exact absurd (by rw [h1]; rw [Int.mul_zero]) c2
  · rw [c4, c5]
    -- the direction of G
    have hdir := dir_of hk1 hw0 (hg a) (der a b hA hB) (w3 (b - a) hw0 (by grind)) c1
    have fa : sg (f a) = sg (G a) := by rw [hf, sg_mul_pos hk0]
    have fb : sg (f b) = sg (G b) := by rw [hf, sg_mul_pos hk0]
    rcases cc with ⟨h1, h2, h3⟩ | ⟨h1, h2, h3⟩ | ⟨h1, h2, h3⟩
    · exact absurd ⟨by rw [sf, sf, h1], by rw [sf]; exact Int.mul_ne_zero hs00 h2⟩ c3
    · have ha : sg (G a) ≠ 0 := by rw [hs]; exact Int.mul_ne_zero hs00 h1
      have hb : sg (G b) = - sg (G a) ∨ sg (G b) = 0 := by
        rw [hs, hs]
        rcases h2 with h2 | h2 <;> rw [h2]
        · left; rw [Int.mul_neg]
        · right; rw [Int.mul_zero]
      rw [h3, fa, fb]
      exact vcase1 hdir ha hb
    · have ha : sg (G a) = 0 := by rw [hs, h1, Int.mul_zero]
      have hb : sg (G b) ≠ 0 := by rw [hs]; exact Int.mul_ne_zero hs00 h2
      rw [h3, fa, fb]
      exact vcase2 hdir ha hb
theorem nat_above (q : Rat) : ∃ n : Nat, q < (n : Rat) := by
  refine ⟨q.num.natAbs + 1, (Rat.lt_iff _ _).mpr ?_⟩
  rw [Rat.den_natCast, Rat.num_natCast]
  have hd := q.den_pos
  have h1 : (1 : Int) ≤ (q.den : Int) := by omega
  have h2 : ((q.num.natAbs + 1 : Nat) : Int) * 1 ≤ ((q.num.natAbs + 1 : Nat) : Int) * (q.den : Int) := Int.mul_le_mul_of_nonneg_left h1 (by omega)
  omega
/-- from cells to a stretch -/
theorem telescope {M d : Rat} (hd : 0 < d) (V : Rat → Int) (zs : List Zr) (cell : ∀ a b, Ab a M → Ab b M → a < b → b - a < d → V a - V b = ((zs.filter (inSt a b)).length : Nat)) :
    ∀ (n : Nat) (a b : Rat), Ab a M → Ab b M → a < b → b - a ≤ (n : Rat) * (d / 2) → V a - V b = ((zs.filter (inSt a b)).length : Nat)
  | 0, a, b, _, _, hab, h => by
    have : ((0 : Nat) : Rat) * (d / 2) = 0 := by
      have e : ((0 : Nat) : Rat) = 0 := rfl
      rw [e]; grind
    grind
  | n + 1, a, b, hA, hB, hab, h => by
    by_cases hs : b - a ≤ d / 2
    · exact cell a b hA hB hab (by grind)
    · have e : ((n + 1 : Nat) : Rat) = (n : Rat) + 1 := Rat.natCast_add n 1
      rw [e] at h
      have hm : Ab (b - d / 2) M := ⟨by have := hA.1; grind, by have := hB.2; grind⟩
      have h1 := telescope hd V zs cell n a (b - d / 2) hA hm (by grind) (by grind)
      have h2 := cell (b - d / 2) b hm hB (by grind) (by grind)
      have h3 := split_len zs (lo := a) (mid := b - d / 2) (hi := b) (by grind) (by grind)
      omega
theorem sturm {f g : Rat → Rat} {r : List (Rat → Rat)} (h : RowF (f :: g :: r)) {G G' : Rat → Rat} (hD : HasD G G') {k0 k1 : Rat} (hk0 : 0 < k0) (hk1 : 0 < k1) (hf : ∀ x, f x = k0 * G x) (hg : ∀ x, g x = k1 * G' x)
    {s0 : Int} (hs0 : s0 = 1 ∨ s0 = -1) (zs : List Zr) (nd : zs.Nodup) (hz : ∀ z ∈ zs, zgood z) (hs : ∀ x, sg (G x) = s0 * psz zs x) (lo hi : Rat) (hlt : lo < hi) :
    vv (sgs (f :: g :: r) lo) - vv (sgs (f :: g :: r) hi) = ((zs.filter (inSt lo hi)).length : Nat) := by
  obtain ⟨A, hA, a1⟩ := Ab.self (x := lo)
  obtain ⟨B, hB, b1⟩ := Ab.self (x := hi)
  obtain ⟨d, hd, cell⟩ := sturm_cell (M := A + B) (by grind) h hD hk0 hk1 hf hg hs0 zs nd hz hs
  obtain ⟨n, hn⟩ := nat_above ((hi - lo) / (d / 2))
  refine telescope hd _ zs cell n lo hi (a1.mono (by grind)) (b1.mono (by grind)) hlt ?_
  have e : (hi - lo) / (d / 2) * (d / 2) = hi - lo := Rat.div_mul_cancel (by grind)
  have := Rat.mul_nonneg (show 0 ≤ (n : Rat) - (hi - lo) / (d / 2) by grind) (show 0 ≤ d / 2 by grind)
  grind
end Mf
end

-- text A7
section
set_option autoImplicit false
set_option linter.all false
/-! A7: the factors: without common parts. -/
namespace Mf
def Cop (f g : Rat → Rat) : Prop := ∃ A B : Rat → Rat, Pf A ∧ Pf B ∧ ∀ x, A x * f x + B x * g x = 1
theorem Cop.symm {f g : Rat → Rat} (h : Cop f g) : Cop g f := by
  obtain ⟨A, B, hA, hB, h⟩ := h
  exact ⟨B, A, hB, hA, fun x => by have := h x; grind⟩
theorem Cop.mul {f g h : Rat → Rat} (pf : Pf f) (pg : Pf g) (ph : Pf h) (a : Cop f g) (b : Cop f h) : Cop f fun x => g x * h x := by
  obtain ⟨A, B, hA, hB, e1⟩ := a
  obtain ⟨C, D, hC, hD, e2⟩ := b
  refine ⟨fun x => A x * (C x * f x) + (A x * (D x * h x) + B x * (C x * g x)), fun x => B x * D x, (hA.mul (hC.mul pf)).add ((hA.mul (hD.mul ph)).add (hB.mul (hC.mul pg))), hB.mul hD, fun x => ?_⟩
  have h1 := e1 x
  have h2 := e2 x
  have : (A x * f x + B x * g x) * (C x * f x + D x * h x) = 1 := by rw [h1, h2]; grind
  grind
theorem Cop.add {f g k : Rat → Rat} (pk : Pf k) (a : Cop f g) : Cop f fun x => g x + f x * k x := by
  obtain ⟨A, B, hA, hB, e1⟩ := a
  refine ⟨fun x => A x + B x * (-1 * k x), B, hA.add (hB.mul ((Pf.const (-1)).mul pk)), hB, fun x => ?_⟩
  have h1 := e1 x
  grind
theorem Cop.congr {f g f' g' : Rat → Rat} (a : Cop f g) (h1 : ∀ x, f' x = f x) (h2 : ∀ x, g' x = g x) : Cop f' g' := by
  obtain ⟨A, B, hA, hB, e1⟩ := a
  exact ⟨A, B, hA, hB, fun x => by rw [h1, h2, e1]⟩
theorem Cop.sc {f g : Rat → Rat} {c : Rat} (hc : c ≠ 0) (a : Cop f g) : Cop f fun x => c * g x := by
  obtain ⟨A, B, hA, hB, e1⟩ := a
  refine ⟨A, fun x => c⁻¹ * B x, hA, (Pf.const _).mul hB, fun x => ?_⟩
  have h1 := e1 x
  have h2 : c * c⁻¹ = 1 := Rat.mul_inv_cancel c hc
  grind
theorem cop_of {f g : Rat → Rat} (A B : List Rat) {c : Rat} (hc : c ≠ 0) (h : ∀ x, ev A x * f x + ev B x * g x = c) : Cop f g := by
  refine ⟨fun x => c⁻¹ * ev A x, fun x => c⁻¹ * ev B x, (Pf.const _).mul (Pf.ev A), (Pf.const _).mul (Pf.ev B), fun x => ?_⟩
  have h1 := h x
  have h2 : c⁻¹ * c = 1 := Rat.inv_mul_cancel c hc
  have : c⁻¹ * (ev A x * f x + ev B x * g x) = 1 := by rw [h1, h2]
  grind
theorem cop_const {f g : Rat → Rat} {c : Rat} (hc : c ≠ 0) (h : ∀ x, f x = c) : Cop f g := cop_of [1] [] hc fun x => by
  rw [h]
  show (1 + x * 0) * c + 0 * g x = c
  grind
def fv (f : Fa) (x : Rat) : Rat := ev (fpoly f) x
def fd : Fa → Rat → Rat
  | .lin _, _ => 1
  | .sq _, x => 2 * x
  | .qa, x => 2 * x + 1
  | .qb, x => 2 * x
  | .qc, x => 2 * x + 1
  | .qd, x => 20 * (x * (x * x))
  | .ng, _ => 0
theorem fv_lin (r x : Rat) : fv (.lin r) x = x - r := by show -r + x * (1 + x * 0) = x - r; grind
theorem fv_sq (k : Int) (x : Rat) : fv (.sq k) x = x * x - (k : Rat) := by show -(k : Rat) + x * (0 + x * (1 + x * 0)) = _; grind
theorem fv_qa (x : Rat) : fv .qa x = x * x + x + 1 := by show 1 + x * (1 + x * (1 + x * 0)) = _; grind
theorem fv_qb (x : Rat) : fv .qb x = x * x + 1 / 4 := by show 1 / 4 + x * (0 + x * (1 + x * 0)) = _; grind
theorem fv_qc (x : Rat) : fv .qc x = x * x + x + 3 := by show 3 + x * (1 + x * (1 + x * 0)) = _; grind
theorem fv_qd (x : Rat) : fv .qd x = 5 * (x * x * (x * x)) + 1 / 3 := by show 1 / 3 + x * (0 + x * (0 + x * (0 + x * (5 + x * 0)))) = _; grind
theorem fv_ng (x : Rat) : fv .ng x = -2 := by show -2 + x * 0 = _; grind
theorem fv_pf (f : Fa) : Pf (fv f) := ⟨fpoly f, fun _ => rfl⟩
theorem fd_pf (f : Fa) : Pf (fd f) := by
  cases f with
  | lin r => exact Pf.const 1
  | sq k => exact (Pf.const 2).mul Pf.id
  | qa => exact ((Pf.const 2).mul Pf.id).add (Pf.const 1)
  | qb => exact (Pf.const 2).mul Pf.id
  | qc => exact ((Pf.const 2).mul Pf.id).add (Pf.const 1)
  | qd => exact (Pf.const 20).mul (Pf.id.mul (Pf.id.mul Pf.id))
  | ng => exact Pf.const 0
theorem hasD_list (l : List Rat) : ∃ l', HasD (ev l) (ev l') := by
  induction l with
  | nil => exact ⟨[], (HasD.const 0).congr (fun _ => rfl) fun _ => rfl⟩
  | cons a l ih =>
    obtain ⟨l', h⟩ := ih
    refine ⟨padd l (0 :: l'), ((HasD.const a).add (HasD.id.mul h Pf.id (Pf.ev l) (Pf.const 1) (Pf.ev l'))).congr (fun _ => rfl) fun x => ?_⟩
    rw [ev_padd]
    show ev l x + (0 + x * ev l' x) = 0 + (1 * ev l x + x * ev l' x)
    grind
theorem hasD_sq : HasD (fun x => x * x) fun x => 2 * x := (HasD.id.mul HasD.id Pf.id Pf.id (Pf.const 1) (Pf.const 1)).congr (fun _ => rfl) fun x => by grind
theorem fv_hasD (f : Fa) : HasD (fv f) (fd f) := by
  cases f with
  | lin r => exact (HasD.id.add (HasD.const (-r))).congr (fun x => by rw [fv_lin]; grind) fun x => by show (1 : Rat) = 1 + 0; grind
  | sq k => exact (hasD_sq.add (HasD.const (-(k : Rat)))).congr (fun x => by rw [fv_sq]; grind) fun x => by show 2 * x = 2 * x + 0; grind
  | qa => exact ((hasD_sq.add HasD.id).add (HasD.const 1)).congr (fun x => by rw [fv_qa]) fun x => by show 2 * x + 1 = 2 * x + 1 + 0; grind
  | qb => exact (hasD_sq.add (HasD.const (1 / 4))).congr (fun x => by rw [fv_qb]) fun x => by show 2 * x = 2 * x + 0; grind
  | qc => exact ((hasD_sq.add HasD.id).add (HasD.const 3)).congr (fun x => by rw [fv_qc]) fun x => by show 2 * x + 1 = 2 * x + 1 + 0; grind
  | qd =>
    have h2 : Pf fun x : Rat => x * x := Pf.id.mul Pf.id
    have h3 : Pf fun x : Rat => 2 * x := (Pf.const 2).mul Pf.id
    have h := hasD_sq.mul hasD_sq h2 h2 h3 h3
    exact (((HasD.const 5).mul h (Pf.const 5) (h2.mul h2) (Pf.const 0) ((h3.mul h2).add (h2.mul h3))).add (HasD.const (1 / 3))).congr (fun x => by rw [fv_qd]) fun x => by
      show 20 * (x * (x * x)) = 0 * (x * x * (x * x)) + 5 * (2 * x * (x * x) + x * x * (2 * x)) + 0
      grind
  | ng => exact (HasD.const (-2)).congr (fun x => by rw [fv_ng]) fun x => rfl
/-! ### each factor and its slope -/
theorem cop_own (f : Fa) (h : fok f) : Cop (fv f) (fd f) := by
  cases f with
  | lin r => exact (cop_const (g := fv (.lin r)) (c := 1) (by decide +kernel) fun x => rfl).symm
  | sq k =>
    have := fok_two h
    refine cop_of [-2] [0, 1] (c := 2 * (k : Rat)) (by grind) fun x => ?_
    rw [fv_sq]
    show (-2 + x * 0) * (x * x - (k : Rat)) + (0 + x * (1 + x * 0)) * (2 * x) = _
    grind
  | qa =>
    refine cop_of [4] [-1, -2] (c := 3) (by decide +kernel) fun x => ?_
    rw [fv_qa]
    show (4 + x * 0) * _ + (-1 + x * (-2 + x * 0)) * (2 * x + 1) = _
    grind
  | qb =>
    refine cop_of [4] [0, -2] (c := 1) (by decide +kernel) fun x => ?_
    rw [fv_qb]
    show (4 + x * 0) * _ + (0 + x * (-2 + x * 0)) * (2 * x) = _
    grind
  | qc =>
    refine cop_of [4] [-1, -2] (c := 11) (by decide +kernel) fun x => ?_
    rw [fv_qc]
    show (4 + x * 0) * _ + (-1 + x * (-2 + x * 0)) * (2 * x + 1) = _
    grind
  | qd =>
    refine cop_of [4] [0, -1] (c := 4 / 3) (by decide +kernel) fun x => ?_
    rw [fv_qd]
    show (4 + x * 0) * _ + (0 + x * (-1 + x * 0)) * (20 * (x * (x * x))) = _
    grind
  | ng => exact cop_const (c := -2) (by decide +kernel) fv_ng
/-! ### two factors -/
theorem cop_lin (r : Rat) (g : Fa) (hg : fok g) (hne : g ≠ .lin r) : Cop (fv (.lin r)) (fv g) := by
  cases g with
  | lin q =>
    have hqr : r - q ≠ 0 := fun h => hne (by have : q = r := by grind
                                             rw [this])
    refine cop_of [-1] [1] hqr fun x => ?_
    rw [fv_lin, fv_lin]
    show (-1 + x * 0) * (x - r) + (1 + x * 0) * (x - q) = _
    grind
  | sq k =>
    have hq : r * r - (k : Rat) ≠ 0 := fun h => sq_ne_fok hg (q := r) (by grind)
    refine cop_of [-r, -1] [1] hq fun x => ?_
    rw [fv_lin, fv_sq]
    show (-r + x * (-1 + x * 0)) * (x - r) + (1 + x * 0) * (x * x - (k : Rat)) = _
    grind
  | qa =>
    have hq : r * r + r + 1 ≠ 0 := by have := sq_nn (r + 1 / 2); grind
    refine cop_of [-(r + 1), -1] [1] hq fun x => ?_
    rw [fv_lin, fv_qa]
    show (-(r + 1) + x * (-1 + x * 0)) * (x - r) + (1 + x * 0) * _ = _
    grind
  | qb =>
    have hq : r * r + 1 / 4 ≠ 0 := by have := sq_nn r; grind
    refine cop_of [-r, -1] [1] hq fun x => ?_
    rw [fv_lin, fv_qb]
    show (-r + x * (-1 + x * 0)) * (x - r) + (1 + x * 0) * _ = _
    grind
  | qc =>
    have hq : r * r + r + 3 ≠ 0 := by have := sq_nn (r + 1 / 2); grind
    refine cop_of [-(r + 1), -1] [1] hq fun x => ?_
    rw [fv_lin, fv_qc]
    show (-(r + 1) + x * (-1 + x * 0)) * (x - r) + (1 + x * 0) * _ = _
    grind
  | qd =>
    have hq : 5 * (r * r * (r * r)) + 1 / 3 ≠ 0 := by have := sq_nn (r * r); grind
    refine cop_of [-(5 * (r * (r * r))), -(5 * (r * r)), -(5 * r), -5] [1] hq fun x => ?_
    rw [fv_lin, fv_qd]
    show (-(5 * (r * (r * r))) + x * (-(5 * (r * r)) + x * (-(5 * r) + x * (-5 + x * 0)))) * (x - r) + (1 + x * 0) * _ = _
    grind
  | ng => exact (cop_const (c := -2) (by decide +kernel) fv_ng).symm
theorem cop_sq (k : Int) (hk : fok (.sq k)) (g : Fa) (hg : fok g) (hne : g ≠ .sq k) : Cop (fv (.sq k)) (fv g) := by
  have k2 := fok_two hk
  have kk := sq_nn (k : Rat)
  cases g with
  | lin q => exact (cop_lin q (.sq k) hk (fun h => by cases h)).symm
  | sq k' =>
    have hkk : (k : Rat) - (k' : Rat) ≠ 0 := fun h => hne (by rw [show k' = k from Rat.intCast_inj.mp (by grind)])
    refine cop_of [-1] [1] hkk fun x => ?_
    rw [fv_sq, fv_sq]
    show (-1 + x * 0) * _ + (1 + x * 0) * _ = _
    grind
  | qa =>
    refine cop_of [-(k : Rat), 1] [1 + (k : Rat), -1] (c := (k : Rat) * k + k + 1) (by grind) fun x => ?_
    rw [fv_sq, fv_qa]
    show (-(k : Rat) + x * (1 + x * 0)) * _ + (1 + (k : Rat) + x * (-1 + x * 0)) * _ = _
    grind
  | qb =>
    refine cop_of [-1] [1] (c := (k : Rat) + 1 / 4) (by grind) fun x => ?_
    rw [fv_sq, fv_qb]
    show (-1 + x * 0) * _ + (1 + x * 0) * _ = _
    grind
  | qc =>
    refine cop_of [-(2 + (k : Rat)), 1] [3 + (k : Rat), -1] (c := (3 + (k : Rat)) * (3 + k) - k) (by grind) fun x => ?_
    rw [fv_sq, fv_qc]
    show (-(2 + (k : Rat)) + x * (1 + x * 0)) * _ + (3 + (k : Rat) + x * (-1 + x * 0)) * _ = _
    grind
  | qd =>
    refine cop_of [-(5 * (k : Rat)), 0, -5] [1] (c := 5 * ((k : Rat) * k) + 1 / 3) (by grind) fun x => ?_
    rw [fv_sq, fv_qd]
    show (-(5 * (k : Rat)) + x * (0 + x * (-5 + x * 0))) * _ + (1 + x * 0) * _ = _
    grind
  | ng => exact (cop_const (c := -2) (by decide +kernel) fv_ng).symm
theorem cop_qa_qc : Cop (fv .qa) (fv .qc) := cop_of [-1] [1] (c := 2) (by decide +kernel) fun x => by
  rw [fv_qa, fv_qc]
  show (-1 + x * 0) * _ + (1 + x * 0) * _ = _
  grind
theorem cop_qa_qd : Cop (fv .qa) (fv .qd) := cop_of [1, -(14 / 15), -(1 / 15), 1] [-(14 / 75), -(1 / 5)] (c := 211 / 225) (by decide +kernel) fun x => by
  rw [fv_qa, fv_qd]
  show (1 + x * (-(14 / 15) + x * (-(1 / 15) + x * (1 + x * 0)))) * _ + (-(14 / 75) + x * (-(1 / 5) + x * 0)) * _ = _
  grind
theorem cop_qb_qc : Cop (fv .qb) (fv .qc) := cop_of [-(7 / 4), 1] [11 / 4, -1] (c := 125 / 16) (by decide +kernel) fun x => by
  rw [fv_qb, fv_qc]
  show (-(7 / 4) + x * (1 + x * 0)) * _ + (11 / 4 + x * (-1 + x * 0)) * _ = _
  grind
theorem cop_qb_qd : Cop (fv .qb) (fv .qd) := cop_of [5 / 4, 0, -5] [1] (c := 31 / 48) (by decide +kernel) fun x => by
  rw [fv_qb, fv_qd]
  show (5 / 4 + x * (0 + x * (-5 + x * 0))) * _ + (1 + x * 0) * _ = _
  grind
theorem cop_pair (f g : Fa) (hf : fok f) (hg : fok g) (hne : f ≠ g) (hq : ¬ (isQ f = true ∧ isQ g = true)) (hx : ¬ (isX f = true ∧ isX g = true)) : Cop (fv f) (fv g) := by
  cases f with
  | lin r => exact cop_lin r g hg (Ne.symm hne)
  | sq k => exact cop_sq k hf g hg (Ne.symm hne)
  | ng => exact cop_const (c := -2) (by decide +kernel) fv_ng
  | qa =>
    cases g with
    | lin r => exact (cop_lin r _ hf (fun h => by cases h)).symm
    | sq k => exact (cop_sq k hg _ hf (fun h => by cases h)).symm
    | qa => exact absurd rfl hne
    | qb => exact absurd ⟨rfl, rfl⟩ hq
    | qc => exact cop_qa_qc
    | qd => exact cop_qa_qd
    | ng => exact (cop_const (c := -2) (by decide +kernel) fv_ng).symm
  | qb =>
    cases g with
    | lin r => exact (cop_lin r _ hf (fun h => by cases h)).symm
    | sq k => exact (cop_sq k hg _ hf (fun h => by cases h)).symm
    | qa => exact absurd ⟨rfl, rfl⟩ hq
    | qb => exact absurd rfl hne
    | qc => exact cop_qb_qc
    | qd => exact cop_qb_qd
    | ng => exact (cop_const (c := -2) (by decide +kernel) fv_ng).symm
  | qc =>
    cases g with
    | lin r => exact (cop_lin r _ hf (fun h => by cases h)).symm
    | sq k => exact (cop_sq k hg _ hf (fun h => by cases h)).symm
    | qa => exact cop_qa_qc.symm
    | qb => exact cop_qb_qc.symm
    | qc => exact absurd rfl hne
    | qd => exact absurd ⟨rfl, rfl⟩ hx
    | ng => exact (cop_const (c := -2) (by decide +kernel) fv_ng).symm
  | qd =>
    cases g with
    | lin r => exact (cop_lin r _ hf (fun h => by cases h)).symm
    | sq k => exact (cop_sq k hg _ hf (fun h => by cases h)).symm
    | qa => exact cop_qa_qd.symm
    | qb => exact cop_qb_qd.symm
    | qc => exact absurd ⟨rfl, rfl⟩ hx
    | qd => exact absurd rfl hne
    | ng => exact (cop_const (c := -2) (by decide +kernel) fv_ng).symm
end Mf
end

-- text A8
section
set_option autoImplicit false
set_option linter.all false
/-! A8: factors with their multiplicities. -/
namespace Mf
abbrev EM := List (Fa × Nat)
def madd : EM → Fa → EM
  | [], f => [(f, 1)]
  | (g, m) :: r, f => if g = f then (g, m + 1) :: r else (g, m) :: madd r f
def em (L : List Fa) : EM := L.foldl madd []
def keys (e : EM) : List Fa := e.map (·.1)
def fE : EM → Rat → Rat
  | [], _ => 1
  | (f, m) :: r, x => fv f x ^ m * fE r x
def pE : EM → Rat → Rat
  | [], _ => 1
  | (f, _) :: r, x => fv f x * pE r x
def dE : EM → Rat → Rat
  | [], _ => 1
  | (f, m) :: r, x => fv f x ^ (m - 1) * dE r x
def sE : EM → Rat → Rat
  | [], _ => 0
  | (f, m) :: r, x => (m : Rat) * (fd f x * pE r x) + fv f x * sE r x
theorem Pf.pow {f : Rat → Rat} (h : Pf f) : ∀ n : Nat, Pf fun x => f x ^ n
  | 0 => (Pf.const 1).congr fun x => Rat.pow_zero _
  | n + 1 => ((Pf.pow h n).mul h).congr fun x => Rat.pow_succ _ _
theorem pE_pf : ∀ e : EM, Pf (pE e)
  | [] => Pf.const 1
  | (f, m) :: r => (fv_pf f).mul (pE_pf r)
theorem dE_pf : ∀ e : EM, Pf (dE e)
  | [] => Pf.const 1
  | (f, m) :: r => ((fv_pf f).pow _).mul (dE_pf r)
theorem sE_pf : ∀ e : EM, Pf (sE e)
  | [] => Pf.const 0
  | (f, m) :: r => ((Pf.const _).mul ((fd_pf f).mul (pE_pf r))).add ((fv_pf f).mul (sE_pf r))
theorem fE_pf : ∀ e : EM, Pf (fE e)
  | [] => Pf.const 1
  | (f, m) :: r => ((fv_pf f).pow _).mul (fE_pf r)
def pos (e : EM) : Prop := ∀ p ∈ e, 1 ≤ p.2
theorem fE_pd : ∀ e : EM, pos e → ∀ x, fE e x = pE e x * dE e x
  | [], _, x => by show (1 : Rat) = 1 * 1; grind
  | (f, m) :: r, h, x => by
    have ih := fE_pd r (fun p hp => h p (List.mem_cons_of_mem _ hp)) x
    have hm : 1 ≤ m := h (f, m) List.mem_cons_self
    obtain ⟨n, rfl⟩ : ∃ n, m = n + 1 := ⟨m - 1, by omega⟩
    show fv f x ^ (n + 1) * fE r x = fv f x * pE r x * (fv f x ^ (n + 1 - 1) * dE r x)
    rw [ih, Rat.pow_succ, Nat.add_sub_cancel]
    grind
theorem hasD_pow (f : Fa) : ∀ n : Nat, HasD (fun x => fv f x ^ (n + 1)) fun x => ((n + 1 : Nat) : Rat) * (fv f x ^ n * fd f x)
  | 0 => (fv_hasD f).congr (fun x => by rw [Rat.pow_succ, Rat.pow_zero]; grind) fun x => by
      rw [Rat.pow_zero]
      have : ((0 + 1 : Nat) : Rat) = 1 := rfl
      rw [this]; grind
  | n + 1 => by
    refine ((hasD_pow f n).mul (fv_hasD f) ((fv_pf f).pow _) (fv_pf f) ((Pf.const _).mul (((fv_pf f).pow _).mul (fd_pf f))) (fd_pf f)).congr (fun x => by rw [Rat.pow_succ]) fun x => ?_
    have e : ((n + 1 + 1 : Nat) : Rat) = ((n + 1 : Nat) : Rat) + 1 := Rat.natCast_add (n + 1) 1
    rw [e, Rat.pow_succ]
    grind
theorem fE_hasD : ∀ e : EM, pos e → HasD (fE e) fun x => dE e x * sE e x
  | [], _ => (HasD.const 1).congr (fun x => rfl) fun x => by show (1 : Rat) * 0 = 0; grind
  | (f, m) :: r, h => by
    have hr : pos r := fun p hp => h p (List.mem_cons_of_mem _ hp)
    have ih := fE_hasD r hr
    have hm : 1 ≤ m := h (f, m) List.mem_cons_self
    obtain ⟨n, rfl⟩ : ∃ n, m = n + 1 := ⟨m - 1, by omega⟩
    refine ((hasD_pow f n).mul ih ((fv_pf f).pow _) (fE_pf r) ((Pf.const _).mul (((fv_pf f).pow _).mul (fd_pf f))) ((dE_pf r).mul (sE_pf r))).congr (fun x => rfl) fun x => ?_
    show fv f x ^ (n + 1 - 1) * dE r x * (((n + 1 : Nat) : Rat) * (fd f x * pE r x) + fv f x * sE r x) = ((n + 1 : Nat) : Rat) * (fv f x ^ n * fd f x) * fE r x + fv f x ^ (n + 1) * (dE r x * sE r x)
    rw [fE_pd r hr, Nat.add_sub_cancel, Rat.pow_succ]
    grind
/-- once each -/
def ones (e : EM) : EM := e.map fun p => (p.1, 1)
theorem pE_ones : ∀ e : EM, pE (ones e) = pE e
  | [] => rfl
  | (f, m) :: r => by
    funext x
    show fv f x * pE (ones r) x = fv f x * pE r x
    rw [pE_ones r]
theorem dE_ones : ∀ (e : EM) (x : Rat), dE (ones e) x = 1
  | [], x => rfl
  | (f, m) :: r, x => by
    show fv f x ^ (1 - 1) * dE (ones r) x = 1
    rw [dE_ones r, Nat.sub_self, Rat.pow_zero]
    grind
theorem pos_ones (e : EM) : pos (ones e) := fun p hp => by
  obtain ⟨q, _, rfl⟩ := List.mem_map.mp hp
  exact Nat.le_refl 1
theorem pE_hasD (e : EM) : HasD (pE e) (sE (ones e)) := (fE_hasD (ones e) (pos_ones e)).congr (fun x => by rw [fE_pd _ (pos_ones e), pE_ones, dE_ones]; grind) fun x => by rw [dE_ones]; grind
/-! ### no common part -/
structure EOk (e : EM) : Prop where
  p : pos e
  nd : (keys e).Nodup
  f : ∀ f ∈ keys e, fok f
  c : ∀ f ∈ keys e, ∀ g ∈ keys e, f ≠ g → Cop (fv f) (fv g)
theorem EOk.tail {f : Fa} {m : Nat} {r : EM} (h : EOk ((f, m) :: r)) : EOk r := ⟨fun p hp => h.p p (List.mem_cons_of_mem _ hp), (List.nodup_cons.mp h.nd).2, fun f hf => h.f f (List.mem_cons_of_mem _ hf), fun f hf g hg => h.c f (List.mem_cons_of_mem _ hf) g (List.mem_cons_of_mem _ hg)⟩
theorem cop_pE (f : Fa) : ∀ e : EM, (∀ g ∈ keys e, Cop (fv f) (fv g)) → Cop (fv f) (pE e)
  | [], _ => (cop_const (c := 1) (by decide +kernel) fun x => rfl).symm
  | (g, m) :: r, h => (h g List.mem_cons_self).mul (fv_pf f) (fv_pf g) (pE_pf r) (cop_pE f r fun g' hg => h g' (List.mem_cons_of_mem _ hg))
theorem cop_ps : ∀ e : EM, EOk e → Cop (pE e) (sE e)
  | [], _ => cop_const (c := 1) (by decide +kernel) fun x => rfl
  | (f, m) :: r, h => by
    have ih := cop_ps r h.tail
    have hm : 1 ≤ m := h.p (f, m) List.mem_cons_self
    have hm0 : (m : Rat) ≠ 0 := by
      have : (0 : Rat) < (m : Rat) := Rat.natCast_pos.mpr hm
      grind
    have hnd := (List.nodup_cons.mp h.nd).1
    have c1 : Cop (fv f) (pE r) := cop_pE f r fun g hg => h.c f List.mem_cons_self g (List.mem_cons_of_mem _ hg) fun e => hnd (by rw [e]; exact hg)
    have c2 : Cop (fv f) (fd f) := cop_own f (h.f f List.mem_cons_self)
    have c3 : Cop (fv f) fun x => (m : Rat) * (fd f x * pE r x) := (c2.mul (fv_pf f) (fd_pf f) (pE_pf r) c1).sc hm0
    have c4 : Cop (fv f) (sE ((f, m) :: r)) := (c3.add (sE_pf r)).congr (fun _ => rfl) fun x => rfl
    have c5 : Cop (pE r) fun x => fv f x * sE r x := c1.symm.mul (pE_pf r) (fv_pf f) (sE_pf r) ih
    have c6 : Cop (pE r) (sE ((f, m) :: r)) := (c5.add ((Pf.const (m : Rat)).mul (fd_pf f))).congr (fun _ => rfl) fun x => by
      show (m : Rat) * (fd f x * pE r x) + fv f x * sE r x = fv f x * sE r x + pE r x * ((m : Rat) * fd f x)
      grind
    exact ((c4.symm).mul (sE_pf _) (fv_pf f) (pE_pf r) c6.symm).symm
theorem EOk.ones {e : EM} (h : EOk e) : EOk (ones e) := by
  have hk : keys (Mf.ones e) = keys e := by
    unfold keys Mf.ones
    rw [List.map_map]
    rfl
  exact ⟨pos_ones e, by rw [hk]; exact h.nd, by rw [hk]; exact h.f, by rw [hk]; exact h.c⟩
/-! ### from the list of factors -/
theorem fE_madd (f : Fa) (x : Rat) : ∀ e : EM, fE (madd e f) x = fE e x * fv f x
  | [] => by show fv f x ^ 1 * 1 = 1 * fv f x; rw [Rat.pow_succ, Rat.pow_zero]; grind
  | (g, m) :: r => by
    rw [madd]
    split
    · rename_i h
      subst h
      show fv g x ^ (m + 1) * fE r x = fv g x ^ m * fE r x * fv g x
      rw [Rat.pow_succ]; grind
    · show fv g x ^ m * fE (madd r f) x = fv g x ^ m * fE r x * fv f x
      rw [fE_madd f x r]; grind
theorem keys_madd (f : Fa) : ∀ e : EM, keys (madd e f) = if f ∈ keys e then keys e else keys e ++ [f]
  | [] => rfl
  | (g, m) :: r => by
    rw [madd]
    by_cases h : g = f
    · subst h
      rw [if_pos rfl, if_pos (show g ∈ keys ((g, m) :: r) from List.mem_cons_self)]
      rfl
    · rw [if_neg h]
      have ih := keys_madd f r
      show g :: keys (madd r f) = _
      rw [ih]
      by_cases h2 : f ∈ keys r
      · rw [if_pos h2, if_pos (show f ∈ keys ((g, m) :: r) from List.mem_cons_of_mem _ h2)]
        rfl
      · rw [if_neg h2, if_neg (show ¬ f ∈ keys ((g, m) :: r) from fun z => (List.mem_cons.mp z).elim (fun e => h e.symm) h2)]
        rfl
theorem pos_madd (f : Fa) : ∀ e : EM, pos e → pos (madd e f)
  | [], _ => fun p hp => by rw [List.mem_singleton.mp hp]; exact Nat.le_refl 1
  | (g, m) :: r, h => by
    rw [madd]
    split
    · intro p hp
      rcases List.mem_cons.mp hp with rfl | hp
      · exact Nat.le_add_left 1 m
      · exact h p (List.mem_cons_of_mem _ hp)
    · intro p hp
      rcases List.mem_cons.mp hp with rfl | hp
      · exact h (g, m) List.mem_cons_self
      · exact pos_madd f r (fun p hp => h p (List.mem_cons_of_mem _ hp)) p hp
theorem em_keys (L : List Fa) : pos (em L) ∧ (keys (em L)).Nodup ∧ (∀ f, f ∈ keys (em L) ↔ f ∈ L) := by
  have key : ∀ (L : List Fa) (e : EM), pos e → (keys e).Nodup → pos (L.foldl madd e) ∧ (keys (L.foldl madd e)).Nodup ∧ (∀ f, f ∈ keys (L.foldl madd e) ↔ f ∈ keys e ∨ f ∈ L) := by
    intro L
    induction L with
    | nil => intro e h1 h2; exact ⟨h1, h2, fun f => by simp⟩
    | cons g L ih =>
      intro e h1 h2
      have hk := keys_madd g e
      have hn : (keys (madd e g)).Nodup := by
        rw [hk]
        split
        · exact h2
        · rename_i h
          rw [List.nodup_append]
          exact ⟨h2, by simp, fun a ha b hb => by rw [List.mem_singleton.mp hb]; exact fun z => h (by rw [← z]; exact ha)⟩
      obtain ⟨i1, i2, i3⟩ := ih (madd e g) (pos_madd g e h1) hn
      refine ⟨i1, i2, fun f => ?_⟩
      rw [List.foldl_cons, i3, hk]
      split
      · rename_i h
        constructor
        · rintro (z | z)
          · exact .inl z
          · exact .inr (List.mem_cons_of_mem _ z)
        · rintro (z | z)
          · exact .inl z
          · rcases List.mem_cons.mp z with rfl | z
            · exact .inl h
            · exact .inr z
      · rw [List.mem_append, List.mem_singleton, List.mem_cons, or_assoc]
  obtain ⟨h1, h2, h3⟩ := key L [] (fun p hp => by simp at hp) (by simp [keys])
  exact ⟨h1, h2, fun f => by rw [em, h3]; simp [keys]⟩
theorem ev_mkp (c : Rat) (L : List Fa) (x : Rat) : ev (mkp c L) x = c * fE (em L) x := by
  have key : ∀ (L : List Fa) (p : List Rat) (e : EM), ev p x = c * fE e x → ev (L.foldl (fun p f => lprod p (fpoly f)) p) x = c * fE (L.foldl madd e) x := by
    intro L
    induction L with
    | nil => intro p e h; exact h
    | cons f L ih =>
      intro p e h
      rw [List.foldl_cons, List.foldl_cons]
      refine ih _ _ ?_
      rw [ev_lprod, fE_madd, h]
      show c * fE e x * fv f x = _
      grind
  refine key L [c] [] ?_
  show c + x * 0 = c * 1
  grind
theorem good_eok {c : Rat} {L : List Fa} (h : Good c L) : EOk (em L) := by
  obtain ⟨h1, h2, h3⟩ := em_keys L
  have two : ∀ (p : Fa → Bool) (f g : Fa), L.countP p ≤ 1 → f ∈ L → g ∈ L → f ≠ g → ¬ (p f = true ∧ p g = true) := by
    intro p f g hc hf hg hne ⟨pf, pg⟩
    have key : ∀ L : List Fa, f ∈ L → g ∈ L → 2 ≤ L.countP p := by
      intro L
      induction L with
      | nil => intro h; simp at h
      | cons a L ih =>
        intro hf hg
        rw [List.countP_cons]
        rcases List.mem_cons.mp hf with e1 | h1 <;> rcases List.mem_cons.mp hg with e2 | h2
        · exact absurd (e1.trans e2.symm) hne
        · have : 0 < L.countP p := List.countP_pos_iff.mpr ⟨g, h2, pg⟩
          rw [if_pos (by rw [← e1]; exact pf)]; omega
        · have : 0 < L.countP p := List.countP_pos_iff.mpr ⟨f, h1, pf⟩
          rw [if_pos (by rw [← e2]; exact pg)]; omega
        · have := ih h1 h2
          omega
    have := key L hf hg
    omega
  exact ⟨h1, h2, fun f hf => h.f f ((h3 f).mp hf), fun f hf g hg hne => cop_pair f g (h.f f ((h3 f).mp hf)) (h.f g ((h3 g).mp hg)) hne (two isQ f g h.nq ((h3 f).mp hf) ((h3 g).mp hg) hne) (two isX f g h.nx ((h3 f).mp hf) ((h3 g).mp hg) hne)⟩
/-! ### zeros of the factors -/
def zf : Fa → List Zr
  | .lin r => [.rat r]
  | .sq k => [.root 1 k, .root (-1) k]
  | _ => []
theorem mem_rat {r : Rat} {ks : List Fa} : Zr.rat r ∈ ks.flatMap zf ↔ Fa.lin r ∈ ks := by
  rw [List.mem_flatMap]
  constructor
  · rintro ⟨f, hf, h⟩
    cases f <;> simp [zf] at h
    rw [h]; exact hf
  · intro h
    exact ⟨_, h, by simp [zf]⟩
theorem mem_root {s k : Int} {ks : List Fa} : Zr.root s k ∈ ks.flatMap zf ↔ (s = 1 ∨ s = -1) ∧ Fa.sq k ∈ ks := by
  rw [List.mem_flatMap]
  constructor
  · rintro ⟨f, hf, h⟩
    cases f <;> simp [zf] at h
    rcases h with ⟨rfl, rfl⟩ | ⟨rfl, rfl⟩
    · exact ⟨.inl rfl, hf⟩
    · exact ⟨.inr rfl, hf⟩
  · rintro ⟨hs, h⟩
    refine ⟨_, h, ?_⟩
    rcases hs with rfl | rfl <;> simp [zf]
theorem zs_keys (L : List Fa) : zsOf L = (keys (em L)).flatMap zf := by
  have key : ∀ (L : List Fa) (zs : List Zr) (e : EM), zs = (keys e).flatMap zf → L.foldl zadd zs = (keys (L.foldl madd e)).flatMap zf := by
    intro L
    induction L with
    | nil => intro zs e h; exact h
    | cons f L ih =>
      intro zs e h
      rw [List.foldl_cons, List.foldl_cons]
      refine ih _ _ ?_
      rw [keys_madd]
      cases f with
      | lin r =>
        simp only [zadd]
        by_cases hm : Fa.lin r ∈ keys e
        · rw [if_pos hm, if_pos (by rw [h]; exact mem_rat.mpr hm), h]
        · rw [if_neg hm, if_neg (by rw [h]; exact fun z => hm (mem_rat.mp z)), h, List.flatMap_append]
          rfl
      | sq k =>
        simp only [zadd]
        by_cases hm : Fa.sq k ∈ keys e
        · have m1 : Zr.root 1 k ∈ zs := by rw [h]; exact mem_root.mpr ⟨.inl rfl, hm⟩
          have m2 : Zr.root (-1) k ∈ zs := by rw [h]; exact mem_root.mpr ⟨.inr rfl, hm⟩
          rw [if_pos hm, ← h]
          simp [m1, m2]
        · have m1 : Zr.root 1 k ∉ zs := by rw [h]; exact fun z => hm (mem_root.mp z).2
          have m2 : Zr.root (-1) k ∉ zs := by rw [h]; exact fun z => hm (mem_root.mp z).2
          rw [if_neg hm, List.flatMap_append, ← h]
          simp [m1, m2, zf]
      | qa => simp only [zadd]; split <;> simp [h, zf, List.flatMap_append]
      | qb => simp only [zadd]; split <;> simp [h, zf, List.flatMap_append]
      | qc => simp only [zadd]; split <;> simp [h, zf, List.flatMap_append]
      | qd => simp only [zadd]; split <;> simp [h, zf, List.flatMap_append]
      | ng => simp only [zadd]; split <;> simp [h, zf, List.flatMap_append]
  exact key L [] [] rfl
theorem zs_nodup (L : List Fa) : (zsOf L).Nodup := by
  have key : ∀ (L : List Fa) (zs : List Zr), zs.Nodup → (L.foldl zadd zs).Nodup := by
    intro L
    induction L with
    | nil => intro zs h; exact h
    | cons f L ih =>
      intro zs h
      rw [List.foldl_cons]
      refine ih _ ?_
      cases f with
      | lin r =>
        simp only [zadd]
        split
        · exact h
        · rename_i hm
          rw [List.nodup_append]
          exact ⟨h, by simp, fun a ha b hb => by rw [List.mem_singleton.mp hb]; exact fun z => hm (by rw [← z]; exact ha)⟩
      | sq k =>
        simp only [zadd]
        rw [List.nodup_append]
        refine ⟨h, List.Nodup.sublist List.filter_sublist (by simp), fun a ha b hb => ?_⟩
        have := (List.mem_filter.mp hb).2
        intro z
        rw [z] at ha
        simp [ha] at this
      | qa => exact h
      | qb => exact h
      | qc => exact h
      | qd => exact h
      | ng => exact h
  exact key L [] (by simp)
theorem zs_zgood {L : List Fa} (h : ∀ f ∈ L, fok f) : ∀ z ∈ zsOf L, zgood z := by
  intro z hz
  rw [zs_keys] at hz
  cases z with
  | rat r => trivial
  | root s k =>
    obtain ⟨h1, h2⟩ := mem_root.mp hz
    exact ⟨h1, h _ (((em_keys L).2.2 _).mp h2)⟩
/-! ### signs -/
theorem sg_mul (x y : Rat) : sg (x * y) = sg x * sg y := by
  rcases sg_cases x with ⟨hx, ex⟩ | ⟨hx, ex⟩ | ⟨hx, ex⟩
  · rw [sg_mul_pos hx, ex, Int.one_mul]
  · have e : x * y = -x * -y := by grind
    rw [e, sg_mul_pos (by grind), ex]
    rcases sg_cases y with ⟨hy, ey⟩ | ⟨hy, ey⟩ | ⟨hy, ey⟩
    · rw [ey, sg_neg (x := -y) (by grind)]; rfl
    · rw [ey, sg_pos (x := -y) (by grind)]; rfl
    · rw [ey, hy]; rfl
  · rw [ex, hx, Rat.zero_mul, Int.zero_mul]; rfl
theorem psz_append (a b : List Zr) (x : Rat) : psz (a ++ b) x = psz a x * psz b x := by
  induction a with
  | nil => show psz b x = 1 * psz b x; omega
  | cons z a ih => rw [List.cons_append, psz_cons, psz_cons, ih, Int.mul_assoc]
def sF : Fa → Int | .ng => -1 | _ => 1
theorem sg_fv (f : Fa) (hf : fok f) (x : Rat) : sg (fv f x) = sF f * psz (zf f) x := by
  cases f with
  | lin r =>
    rw [fv_lin]
    show sg (x - r) = 1 * (sg (x - r) * 1)
    omega
  | sq k =>
    rw [fv_sq]
    show sg (x * x - (k : Rat)) = 1 * ((if aboveB (.root 1 k) x = true then -1 else 1) * ((if aboveB (.root (-1) k) x = true then -1 else 1) * 1))
    have nz : x * x ≠ (k : Rat) := sq_ne_fok hf
    have k2 := fok_two hf
    by_cases hlt : x * x < (k : Rat)
    · have a1 : ab (.root 1 k) x := by rw [ab_root, if_pos rfl]; exact .inr hlt
      have a2 : ¬ ab (.root (-1) k) x := by rw [ab_root, if_neg (by decide)]; exact fun z => by have := z.2; grind
      rw [if_pos ((ab_iff _ _).mpr a1), if_neg (fun z => a2 ((ab_iff _ _).mp z)), sg_neg (by grind)]
      rfl
    · by_cases hx : x < 0
      · have a1 : ab (.root 1 k) x := by rw [ab_root, if_pos rfl]; exact .inl hx
        have a2 : ab (.root (-1) k) x := by rw [ab_root, if_neg (by decide)]; exact ⟨hx, by grind⟩
        rw [if_pos ((ab_iff _ _).mpr a1), if_pos ((ab_iff _ _).mpr a2), sg_pos (by grind)]
        rfl
      · have a1 : ¬ ab (.root 1 k) x := by rw [ab_root, if_pos rfl]; exact fun z => z.elim hx hlt
        have a2 : ¬ ab (.root (-1) k) x := by rw [ab_root, if_neg (by decide)]; exact fun z => hx z.1
        rw [if_neg (fun z => a1 ((ab_iff _ _).mp z)), if_neg (fun z => a2 ((ab_iff _ _).mp z)), sg_pos (by grind)]
        rfl
  | qa =>
    rw [fv_qa, sg_pos (by have := sq_nn (x + 1 / 2); grind)]; rfl
  | qb =>
    rw [fv_qb, sg_pos (by have := sq_nn x; grind)]; rfl
  | qc =>
    rw [fv_qc, sg_pos (by have := sq_nn (x + 1 / 2); grind)]; rfl
  | qd =>
    rw [fv_qd, sg_pos (by have := sq_nn (x * x); grind)]; rfl
  | ng => rw [fv_ng]; rfl
theorem sg_pE : ∀ e : EM, (∀ f ∈ keys e, fok f) → ∃ s : Int, (s = 1 ∨ s = -1) ∧ ∀ x, sg (pE e x) = s * psz ((keys e).flatMap zf) x
  | [], _ => ⟨1, .inl rfl, fun x => rfl⟩
  | (f, m) :: r, h => by
    obtain ⟨s, hs, ih⟩ := sg_pE r fun f hf => h f (List.mem_cons_of_mem _ hf)
    have hf := h f List.mem_cons_self
    refine ⟨sF f * s, ?_, fun x => ?_⟩
    · have : sF f = 1 ∨ sF f = -1 := by cases f <;> first | exact .inl rfl | exact .inr rfl
      rcases this with e | e <;> rcases hs with rfl | rfl <;> rw [e] <;> decide
    · show sg (fv f x * pE r x) = _
      rw [sg_mul, sg_fv f hf, ih]
      show _ = sF f * s * psz ((f :: keys r).flatMap zf) x
      rw [List.flatMap_cons, psz_append]
      grind
end Mf
end

-- text A9
section
set_option autoImplicit false
set_option linter.all false
/-! A9: the row of integers as functions. -/
namespace Mf
def cst (l : List Int) : List Rat := l.map fun n : Int => (n : Rat)
def evI (l : List Int) (x : Rat) : Rat := ev (cst l) x
theorem evI_cons (a : Int) (l : List Int) (x : Rat) : evI (a :: l) x = (a : Rat) + x * evI l x := rfl
theorem evI_nil (x : Rat) : evI [] x = 0 := rfl
theorem cst_trim (l : List Int) : cst (trim l) = trim (cst l) := by
  induction l with
  | nil => rfl
  | cons a l ih =>
    have e : cst (a :: l) = (a : Rat) :: cst l := rfl
    rw [e, trim_cons, trim_cons, ← ih]
    by_cases h : trim l = []
    · have h' : cst (trim l) = [] := by rw [h]; rfl
      rw [if_pos h, if_pos h']
      by_cases ha : a = 0
      · have ha' : (a : Rat) = 0 := by rw [ha]; rfl
        rw [if_pos ha, if_pos ha']
        rfl
      · have ha' : ¬ (a : Rat) = 0 := fun z => ha (Rat.intCast_inj.mp (z.trans rfl))
        rw [if_neg ha, if_neg ha']
        rfl
    · have h' : ¬ cst (trim l) = [] := fun z => h (List.map_eq_nil_iff.mp z)
      rw [if_neg h, if_neg h']
      rfl
theorem evI_trim (l : List Int) (x : Rat) : evI (trim l) x = evI l x := by
  unfold evI
  rw [cst_trim, ev_trim]
theorem evI_mul (s : Int) (l : List Int) (x : Rat) : evI (l.map fun m => s * m) x = (s : Rat) * evI l x := by
  induction l with
  | nil => show (0 : Rat) = s * 0; grind
  | cons a l ih =>
    rw [List.map_cons, evI_cons, evI_cons, ih, Rat.intCast_mul]; grind
theorem evI_neg (l : List Int) (x : Rat) : evI (l.map fun m => -m) x = - evI l x := by
  induction l with
  | nil => show (0 : Rat) = - 0; grind
  | cons a l ih => rw [List.map_cons, evI_cons, evI_cons, ih, Rat.intCast_neg]; grind
theorem evI_append (a b : List Int) (x : Rat) : evI (a ++ b) x = evI a x + x ^ a.length * evI b x := by
  induction a with
  | nil => show evI b x = 0 + x ^ 0 * evI b x; rw [Rat.pow_zero]; grind
  | cons c a ih => rw [List.cons_append, evI_cons, evI_cons, ih, List.length_cons, Rat.pow_succ]; grind
theorem evI_zip (s b : Int) (x : Rat) : ∀ p q : List Int, p.length = q.length → evI (List.zipWith (fun m i => s * m - b * i) p q) x = (s : Rat) * evI p x - (b : Rat) * evI q x
  | [], [], _ => by show (0 : Rat) = s * 0 - b * 0; grind
  | [], _ :: _, h => by simp at h
  | _ :: _, [], h => by simp at h
  | m :: p, i :: q, h => by
    rw [List.zipWith_cons_cons, evI_cons, evI_cons, evI_cons, evI_zip s b x p q (by simpa using h), Rat.intCast_sub, Rat.intCast_mul, Rat.intCast_mul]
    grind
theorem evI_dropLast {l : List Int} (h : l ≠ []) (h0 : l.getLastD 0 = 0) (x : Rat) : evI l.dropLast x = evI l x := by
  have e := List.dropLast_concat_getLast h
  rw [List.getLastD_eq_getLast?, List.getLast?_eq_some_getLast h] at h0
  rw [show l.getLast h = 0 from h0] at e
  conv => rhs; rw [← e]
  rw [evI_append]
  show _ = _ + _ * ((0 : Int) + x * 0)
  rw [show ((0 : Int) : Rat) = 0 from rfl]
  grind
theorem gcdAll_dvd (l : List Int) : ∀ c ∈ l, (gcdAll l : Int) ∣ c := by
  have key : ∀ (l : List Int) (g : Nat), (l.foldl (fun g x => Nat.gcd g x.natAbs) g ∣ g) ∧ ∀ c ∈ l, l.foldl (fun g x => Nat.gcd g x.natAbs) g ∣ c.natAbs := by
    intro l
    induction l with
    | nil => intro g; exact ⟨Nat.dvd_refl g, fun c h => by simp at h⟩
    | cons a l ih =>
      intro g
      rw [List.foldl_cons]
      obtain ⟨h1, h2⟩ := ih (Nat.gcd g a.natAbs)
      refine ⟨Nat.dvd_trans h1 (Nat.gcd_dvd_left _ _), fun c hc => ?_⟩
      rcases List.mem_cons.mp hc with rfl | hc
      · exact Nat.dvd_trans h1 (Nat.gcd_dvd_right _ _)
      · exact h2 c hc
  intro c hc
  exact Int.ofNat_dvd_left.mpr ((key l 0).2 c hc)
theorem less_form (l : List Int) : ∃ g : Int, 0 < g ∧ l = (less l).map fun m => g * m := by
  unfold less
  split
  · rename_i h
    refine ⟨gcdAll l, by omega, ?_⟩
    rw [List.map_map]
    refine (List.map_id _).symm.trans (List.map_congr_left fun c hc => ?_)
    have := Int.mul_ediv_cancel' (gcdAll_dvd l c hc)
    exact this.symm
  · exact ⟨1, by decide, by simp⟩
theorem evI_less (l : List Int) : ∃ k : Rat, 0 < k ∧ ∀ x, evI l x = k * evI (less l) x := by
  obtain ⟨g, hg, e⟩ := less_form l
  refine ⟨(g : Rat), Rat.intCast_pos.mpr hg, fun x => ?_⟩
  conv => lhs; rw [e]
  exact evI_mul g _ x
/-- nothing, or a last one that is not 0 -/
def Nz (l : List Int) : Prop := l = [] ∨ l.getLastD 0 ≠ 0
theorem Nz.trim (l : List Int) : Nz (trim l) := by
  by_cases h : Mf.trim l = []
  · exact .inl h
  · right
    rw [List.getLastD_eq_getLast?, List.getLast?_eq_some_getLast h]
    exact trim_last l h _ (List.getLast?_eq_some_getLast h)
theorem last_map {f : Int → Int} (h0 : f 0 = 0) (l : List Int) : (l.map f).getLastD 0 = f (l.getLastD 0) := by
  rw [List.getLastD_eq_getLast?, List.getLastD_eq_getLast?, List.getLast?_map]
  cases l.getLast? with
  | none => exact h0.symm
  | some x => rfl
theorem Nz.less {l : List Int} (h : Nz l) : Nz (less l) := by
  obtain ⟨g, hg, e⟩ := less_form l
  rcases h with h | h
  · left
    rw [h]; rfl
  · right
    intro z
    apply h
    rw [e, last_map (by omega), z]
    omega
theorem Nz.neg {l : List Int} (h : Nz l) : Nz (l.map fun m => -m) := by
  rcases h with h | h
  · left; rw [h]; rfl
  · right
    rw [last_map (by omega)]
    omega
theorem drop_last {l : List Int} {n : Nat} (h : n < l.length) : (l.drop n).getLastD 0 = l.getLastD 0 := by
  rw [List.getLastD_eq_getLast?, List.getLastD_eq_getLast?, List.getLast?_drop, if_neg (by omega)]
theorem zip_last (s b : Int) : ∀ p q : List Int, p.length = q.length → p ≠ [] → (List.zipWith (fun m i => s * m - b * i) p q).getLastD 0 = s * p.getLastD 0 - b * q.getLastD 0
  | [], _, _, h => absurd rfl h
  | _ :: _, [], h, _ => by simp at h
  | [m], [i], _, _ => rfl
  | [m], i :: j :: q, h, _ => by simp at h
  | m :: n :: p, [i], h, _ => by simp at h
  | m :: n :: p, i :: j :: q, h, _ => by
    have ih := zip_last s b (n :: p) (j :: q) (by simpa using h) (by simp)
    have lc : ∀ (a : Int) (l : List Int), l ≠ [] → (a :: l).getLastD 0 = l.getLastD 0 := fun a l hl => by
      cases l with
      | nil => exact absurd rfl hl
      | cons c l => simp [List.getLastD_eq_getLast?, List.getLast?_cons_cons]
    rw [List.zipWith_cons_cons, lc _ _ (by simp), ih, lc m (n :: p) (by simp), lc i (j :: q) (by simp)]
def raw (other rest : List Int) : List Int := (rest.take (rest.length - other.length)).map (fun m => ((other.getLastD 0).natAbs : Int) * m) ++ (List.zipWith (fun m i => ((other.getLastD 0).natAbs : Int) * m - ((if other.getLastD 0 > 0 then 1 else -1) * rest.getLastD 0) * i) (rest.drop (rest.length - other.length)) other).dropLast
theorem tstep_is (other rest : List Int) : tstep other rest = less (trim (raw other rest)) := rfl
theorem raw_ev {other rest : List Int} (h0 : other ≠ []) (h : other.length ≤ rest.length) (x : Rat) : evI (raw other rest) x = (((other.getLastD 0).natAbs : Int) : Rat) * evI rest x - x ^ (rest.length - other.length) * ((((if other.getLastD 0 > 0 then 1 else -1) * rest.getLastD 0 : Int) : Rat) * evI other x) := by
  have hol := List.length_pos_iff.mpr h0
  have hdl : (rest.drop (rest.length - other.length)).length = other.length := by rw [List.length_drop]; omega
  have hdn : rest.drop (rest.length - other.length) ≠ [] := fun z => by rw [z] at hdl; simp at hdl; omega
  have hzn : List.zipWith (fun m i => ((other.getLastD 0).natAbs : Int) * m - ((if other.getLastD 0 > 0 then 1 else -1) * rest.getLastD 0) * i) (rest.drop (rest.length - other.length)) other ≠ [] := fun z => by
    have := congrArg List.length z
    rw [List.length_zipWith, hdl, List.length_nil] at this
    omega
  have hz0 : (List.zipWith (fun m i => ((other.getLastD 0).natAbs : Int) * m - ((if other.getLastD 0 > 0 then 1 else -1) * rest.getLastD 0) * i) (rest.drop (rest.length - other.length)) other).getLastD 0 = 0 := by
    rw [zip_last _ _ _ _ hdl hdn, drop_last (by omega)]
    generalize other.getLastD 0 = ld
    generalize rest.getLastD 0 = lr
    split
    · rw [show ((ld.natAbs : Nat) : Int) = ld by omega]
      rw [Int.one_mul, Int.mul_comm]
      omega
    · rw [show ((ld.natAbs : Nat) : Int) = -ld by omega]
      rw [Int.neg_mul, Int.neg_mul, Int.neg_mul, Int.one_mul, Int.mul_comm]
      omega
  unfold raw
  rw [evI_append, evI_dropLast hzn hz0, evI_zip _ _ _ _ _ hdl, evI_mul, List.length_map, List.length_take, Nat.min_eq_left (by omega)]
  have e : evI rest x = evI (rest.take (rest.length - other.length)) x + x ^ (rest.length - other.length) * evI (rest.drop (rest.length - other.length)) x := by
    conv => lhs; rw [← List.take_append_drop (rest.length - other.length) rest]
    rw [evI_append, List.length_take, Nat.min_eq_left (by omega)]
  rw [e]
  grind
theorem xpow_pf (n : Nat) : Pf fun x => x ^ n := Pf.pow Pf.id n
theorem tloop_id {other : List Int} (h0 : other ≠ []) (hl : other.getLastD 0 ≠ 0) : ∀ (n : Nat) (rest : List Int), rest.length = n → Nz rest → (∃ (al : Rat) (Q : List Rat), 0 < al ∧ ∀ x, al * evI rest x = ev Q x * evI other x + evI (tloop other rest) x) ∧ Nz (tloop other rest) := by
  intro n
  induction n using Nat.strongRecOn with
  | _ n ih =>
    intro rest hn hz
    rw [tloop]
    split
    · rename_i h
      obtain ⟨⟨a1, Q1, ha1, e1⟩, z1⟩ := ih _ (by rw [← hn]; exact tstep_len h.1 h.2) (tstep other rest) rfl (by rw [tstep_is]; exact (Nz.trim _).less)
      refine ⟨?_, z1⟩
      obtain ⟨k, hk, ek⟩ := evI_less (trim (raw other rest))
      have hs : (0 : Rat) < (((other.getLastD 0).natAbs : Int) : Rat) := Rat.intCast_pos.mpr (by omega)
      obtain ⟨Q2, hQ2⟩ : Pf fun x => ev Q1 x * k + a1 * (x ^ (rest.length - other.length) * (((if other.getLastD 0 > 0 then 1 else -1) * rest.getLastD 0 : Int) : Rat)) := ((Pf.ev Q1).mul (Pf.const k)).add ((Pf.const a1).mul ((xpow_pf _).mul (Pf.const _)))
      obtain ⟨Q3, hQ3⟩ : Pf fun x => k⁻¹ * ev Q2 x := (Pf.const _).mul (Pf.ev Q2)
      refine ⟨a1 * (k⁻¹ * (((other.getLastD 0).natAbs : Int) : Rat)), Q3, Rat.mul_pos ha1 (Rat.mul_pos (Rat.inv_pos.mpr hk) hs), fun x => ?_⟩
      have r1 := raw_ev h.1 h.2 x
      have r2 := ek x
      rw [evI_trim] at r2
      have r3 := e1 x
      rw [tstep_is] at r3 ⊢
      rw [r2] at r1
      have q2 := hQ2 x
      have q3 := hQ3 x
      simp only at q2 q3
      rw [← q3, ← q2]
      have kk : k⁻¹ * k = 1 := Rat.inv_mul_cancel k (by grind)
      generalize (((other.getLastD 0).natAbs : Int) : Rat) = s at r1 ⊢
      generalize ((((if other.getLastD 0 > 0 then 1 else -1) * rest.getLastD 0 : Int)) : Rat) = b at r1 ⊢
      generalize x ^ (rest.length - other.length) = xp at r1 ⊢
      generalize evI (less (trim (raw other rest))) x = tt at r1 r3 ⊢
      generalize evI (tloop other (less (trim (raw other rest)))) x = fin at r3 ⊢
      generalize evI rest x = R at r1 ⊢
      generalize evI other x = O at r1 r3 ⊢
      -- s R = k tt + xp b O;  a1 tt = Q1 O + fin
      have e4 : s * R = k * tt + xp * (b * O) := by grind
      have e5 : a1 * (k⁻¹ * s) * R = a1 * (k⁻¹ * k) * tt + a1 * k⁻¹ * (xp * (b * O)) := by
        have : a1 * (k⁻¹ * s) * R = a1 * k⁻¹ * (s * R) := by grind
        rw [this, e4]; grind
      rw [e5, kk]
      have e6 : k⁻¹ * (ev Q1 x * k + a1 * (xp * b)) * O = (k⁻¹ * k) * (ev Q1 x * O) + a1 * k⁻¹ * (xp * (b * O)) := by grind
      rw [e6, kk]
      grind
    · exact ⟨⟨1, [], by decide +kernel, fun x => by show 1 * evI rest x = 0 * _ + _; grind⟩, hz⟩
theorem trest_id {x y : List Int} (h0 : y ≠ []) (hy : Nz y) (hx : Nz x) : (∃ (al : Rat) (Q : List Rat), 0 < al ∧ ∀ t, al * evI x t = ev Q t * evI y t - evI (trest x y) t) ∧ Nz (trest x y) := by
  obtain ⟨⟨al, Q, ha, e⟩, z⟩ := tloop_id h0 (hy.elim (fun z => absurd z h0) id) _ x rfl hx
  refine ⟨⟨al, Q, ha, fun t => ?_⟩, z.neg⟩
  unfold trest
  rw [evI_neg, e]
  grind
def rlast (x y : List Int) : List Int := (x :: rowLoop x y).getLastD []
theorem rlast_nil (x : List Int) : rlast x [] = x := by
  unfold rlast
  rw [rowLoop, dif_pos rfl]
  rfl
theorem rlast_cons {x y : List Int} (h : y ≠ []) : rlast x y = rlast y (trest x y) := by
  unfold rlast
  conv => lhs; rw [rowLoop, dif_neg h]
  simp [List.getLastD_eq_getLast?, List.getLast?_cons_cons]
theorem rowLoop_ne {x y : List Int} (h : y ≠ []) : rowLoop x y = y :: rowLoop y (trest x y) := by
  conv => lhs; rw [rowLoop, dif_neg h]
theorem rowLoop_nil (x : List Int) : rowLoop x [] = [] := by rw [rowLoop, dif_pos rfl]
theorem const_of {d : List Int} (h : d.length = 1) (hz : Nz d) : ∃ c : Rat, c ≠ 0 ∧ ∀ t, evI d t = c := by
  obtain ⟨n, rfl⟩ := List.length_eq_one_iff.mp h
  have hn : n ≠ 0 := hz.elim (fun z => by cases z) id
  refine ⟨(n : Rat), fun z => hn (Rat.intCast_inj.mp (z.trans rfl)), fun t => ?_⟩
  show (n : Rat) + t * 0 = n
  grind
/-- the row, its last one a constant -/
theorem rowF_of : ∀ (n : Nat) (x y : List Int), y.length = n → x ≠ [] → Nz x → Nz y → (rlast x y).length = 1 → RowF ((x :: rowLoop x y).map evI) := by
  intro n
  induction n using Nat.strongRecOn with
  | _ n ih =>
    intro x y hn hx0 hx hy hl
    by_cases h : y = []
    · subst h
      rw [rlast_nil] at hl
      rw [rowLoop_nil]
      obtain ⟨c, hc, e⟩ := const_of hl hx
      exact .one c hc e
    · obtain ⟨⟨al, Q, ha, e⟩, z⟩ := trest_id h hy hx
      rw [rlast_cons h] at hl
      rw [rowLoop_ne h]
      have k := ih _ (by rw [← hn]; exact trest_len h) y (trest x y) rfl h hy z hl
      by_cases ht : trest x y = []
      · rw [ht, rowLoop_nil]
        rw [ht, rlast_nil] at hl
        obtain ⟨c, hc, e⟩ := const_of hl hy
        exact .two (cst x) (fun _ => rfl) c hc e
      · rw [rowLoop_ne ht] at k ⊢
        exact .step (cst x) Q al (fun _ => rfl) ha e k
theorem rlast_nz : ∀ (n : Nat) (x y : List Int), y.length = n → x ≠ [] → Nz x → Nz y → Nz (rlast x y) ∧ rlast x y ≠ [] := by
  intro n
  induction n using Nat.strongRecOn with
  | _ n ih =>
    intro x y hn hx0 hx hy
    by_cases h : y = []
    · subst h
      rw [rlast_nil]
      exact ⟨hx, hx0⟩
    · rw [rlast_cons h]
      exact ih _ (by rw [← hn]; exact trest_len h) y (trest x y) rfl h hy (trest_id h hy hx).2
/-- the last one divides -/
theorem row_dvd : ∀ (n : Nat) (x y : List Int), y.length = n → x ≠ [] → Nz x → Nz y → ∃ u v : List Rat, ∀ t, evI x t = ev u t * evI (rlast x y) t ∧ evI y t = ev v t * evI (rlast x y) t := by
  intro n
  induction n using Nat.strongRecOn with
  | _ n ih =>
    intro x y hn hx0 hx hy
    by_cases h : y = []
    · subst h
      rw [rlast_nil]
      refine ⟨[1], [], fun t => ⟨?_, ?_⟩⟩
      · show _ = (1 + t * 0) * _
        grind
      · show (0 : Rat) = 0 * _
        grind
    · obtain ⟨⟨al, Q, ha, e⟩, z⟩ := trest_id h hy hx
      obtain ⟨u, v, huv⟩ := ih _ (by rw [← hn]; exact trest_len h) y (trest x y) rfl h hy z
      rw [rlast_cons h]
      obtain ⟨w, hw⟩ : Pf fun t => al⁻¹ * (ev Q t * ev u t + -1 * ev v t) := (Pf.const _).mul (((Pf.ev Q).mul (Pf.ev u)).add ((Pf.const (-1)).mul (Pf.ev v)))
      refine ⟨w, u, fun t => ⟨?_, (huv t).1⟩⟩
      have qw := hw t
      simp only at qw
      rw [← qw]
      have e1 := e t
      obtain ⟨h1, h2⟩ := huv t
      rw [h1, h2] at e1
      have aa : al⁻¹ * al = 1 := Rat.inv_mul_cancel al (by grind)
      have : evI x t = al⁻¹ * (al * evI x t) := by
        have : al⁻¹ * (al * evI x t) = (al⁻¹ * al) * evI x t := by grind
        rw [this, aa]; grind
      rw [this, e1]
      grind
/-- what divides the first two divides the last -/
theorem row_fwd {E : Rat → Rat} : ∀ (n : Nat) (x y : List Int), y.length = n → x ≠ [] → Nz x → Nz y → (∃ u : List Rat, ∀ t, evI x t = ev u t * E t) → (∃ v : List Rat, ∀ t, evI y t = ev v t * E t) → ∃ w : List Rat, ∀ t, evI (rlast x y) t = ev w t * E t := by
  intro n
  induction n using Nat.strongRecOn with
  | _ n ih =>
    intro x y hn hx0 hx hy hu hv
    by_cases h : y = []
    · subst h
      rw [rlast_nil]
      exact hu
    · obtain ⟨⟨al, Q, ha, e⟩, z⟩ := trest_id h hy hx
      rw [rlast_cons h]
      refine ih _ (by rw [← hn]; exact trest_len h) y (trest x y) rfl h hy z hv ?_
      obtain ⟨u, hu⟩ := hu
      obtain ⟨v, hv⟩ := hv
      obtain ⟨w, hw⟩ : Pf fun t => ev Q t * ev v t + -1 * (al * ev u t) := ((Pf.ev Q).mul (Pf.ev v)).add ((Pf.const (-1)).mul ((Pf.const al).mul (Pf.ev u)))
      refine ⟨w, fun t => ?_⟩
      have qw := hw t
      simp only at qw
      rw [← qw]
      have e1 := e t
      rw [hu, hv] at e1
      grind
end Mf
end

-- text A10
section
set_option autoImplicit false
set_option linter.all false
/-! A10: the row's start; slopes; whole numbers. -/
namespace Mf
/-! ### slopes -/
def sl (k : Nat) (l : List Rat) : List Rat := l.mapIdx fun i c => ((i + k : Nat) : Rat) * c
theorem sl_cons (k : Nat) (a : Rat) (l : List Rat) : sl k (a :: l) = (k : Rat) * a :: sl (k + 1) l := by
  unfold sl
  rw [List.mapIdx_cons]
  congr 1
  · rw [Nat.zero_add]
  · exact List.ext_getElem (by simp) (by intros; simp; grind)
theorem ev_sl (x : Rat) : ∀ (l : List Rat) (k : Nat), ev (sl (k + 1) l) x = ev (sl k l) x + ev l x
  | [], k => by show (0 : Rat) = 0 + 0; grind
  | a :: l, k => by
    rw [sl_cons, sl_cons]
    show ((k + 1 : Nat) : Rat) * a + x * ev (sl (k + 1 + 1) l) x = ((k : Rat) * a + x * ev (sl (k + 1) l) x) + (a + x * ev l x)
    rw [ev_sl x l (k + 1), show ((k + 1 : Nat) : Rat) = (k : Rat) + 1 from Rat.natCast_add k 1]
    grind
theorem slope_is (l : List Rat) : slope l = trim ((sl 0 l).drop 1) := rfl
theorem hasD_slope (l : List Rat) : HasD (ev l) (ev (slope l)) := by
  have key : ∀ l : List Rat, HasD (ev l) (ev ((sl 0 l).drop 1)) := by
    intro l
    induction l with
    | nil => exact (HasD.const 0).congr (fun _ => rfl) fun _ => rfl
    | cons a l ih =>
      refine ((HasD.const a).add (HasD.id.mul ih Pf.id (Pf.ev l) (Pf.const 1) (Pf.ev _))).congr (fun _ => rfl) fun x => ?_
      rw [sl_cons]
      show ev (sl 1 l) x = 0 + (1 * ev l x + x * ev ((sl 0 l).drop 1) x)
      rw [ev_sl]
      have : ev (sl 0 l) x = x * ev ((sl 0 l).drop 1) x := by
        cases l with
        | nil => show (0 : Rat) = x * 0; grind
        | cons b l =>
          rw [sl_cons]
          show ((0 : Nat) : Rat) * b + x * ev (sl 1 l) x = x * ev (sl 1 l) x
          rw [show ((0 : Nat) : Rat) = 0 from rfl]
          grind
      rw [this]; grind
  exact (key l).congr (fun _ => rfl) fun x => by rw [slope_is, ev_trim]
/-! ### whole numbers -/
theorem lcm_pos (l : List Rat) : 0 < lcmDen l ∧ ∀ c ∈ l, (c.den : Int) ∣ lcmDen l := by
  have key : ∀ (l : List Rat) (d : Int), 0 < d → 0 < l.foldl (fun d c => d / (Int.gcd d c.den : Int) * c.den) d ∧ d ∣ l.foldl (fun d c => d / (Int.gcd d c.den : Int) * c.den) d ∧ ∀ c ∈ l, (c.den : Int) ∣ l.foldl (fun d c => d / (Int.gcd d c.den : Int) * c.den) d := by
    intro l
    induction l with
    | nil => intro d hd; exact ⟨hd, Int.dvd_refl d, fun c h => by simp at h⟩
    | cons a l ih =>
      intro d hd
      rw [List.foldl_cons]
      have hg1 : (Int.gcd d a.den : Int) ∣ d := Int.gcd_dvd_left ..
      have hg2 : (Int.gcd d a.den : Int) ∣ (a.den : Int) := Int.gcd_dvd_right ..
      have had : (0 : Int) < (a.den : Int) := by have := a.den_pos; omega
      have hgp : (0 : Int) < (Int.gcd d a.den : Int) := by
        have := Int.gcd_pos_of_ne_zero_right d (show (a.den : Int) ≠ 0 by omega)
        omega
      obtain ⟨q, hq⟩ := hg1
      obtain ⟨p, hp⟩ := hg2
      have hdq : d / (Int.gcd d a.den : Int) = q := by
        conv => lhs; lhs; rw [hq]
        exact Int.mul_ediv_cancel_left _ (by omega)
      have hq0 : 0 < q := by
        by_cases h : 0 < q
        · exact h
        · have := Int.mul_nonneg (show 0 ≤ (Int.gcd d a.den : Int) by omega) (show 0 ≤ -q by omega)
          rw [Int.mul_neg, ← hq] at this
          omega
      have hn : 0 < d / (Int.gcd d a.den : Int) * a.den := by
        rw [hdq]
        exact Int.mul_pos hq0 had
      obtain ⟨i1, i2, i3⟩ := ih _ hn
      refine ⟨i1, ?_, fun c hc => ?_⟩
      · refine Int.dvd_trans ?_ i2
        rw [hdq]
        refine ⟨p, ?_⟩
        conv => lhs; rw [hp]
        conv => rhs; rw [hq]
        rw [← Int.mul_assoc, Int.mul_comm q]
      · rcases List.mem_cons.mp hc with rfl | hc
        · exact Int.dvd_trans (Int.dvd_mul_left _ _) i2
        · exact i3 c hc
  have := key l 1 (by decide)
  exact ⟨this.1, this.2.2⟩
theorem num_den (c : Rat) : c * (c.den : Rat) = (c.num : Rat) := by
  have hd : (c.den : Rat) ≠ 0 := by
    have := Rat.natCast_pos.mpr c.den_pos
    grind
  have e : c = (c.num : Rat) / ((c.den : Int) : Rat) := by rw [← Rat.divInt_eq_div, Rat.num_divInt_den]
  rw [Rat.intCast_natCast] at e
  conv => lhs; lhs; rw [e]
  exact Rat.div_mul_cancel hd
theorem evI_whole (l : List Rat) (x : Rat) : evI (whole l) x = (lcmDen l : Rat) * ev l x := by
  have key : ∀ (m : List Rat) (D : Int), (∀ c ∈ m, (c.den : Int) ∣ D) → evI (m.map fun c => c.num * (D / c.den)) x = (D : Rat) * ev m x := by
    intro m D
    induction m with
    | nil => intro _; show (0 : Rat) = D * 0; grind
    | cons a m ih =>
      intro h
      rw [List.map_cons, evI_cons, ih fun c hc => h c (List.mem_cons_of_mem _ hc)]
      show _ = (D : Rat) * (a + x * ev m x)
      obtain ⟨q, hq⟩ := h a List.mem_cons_self
      have had : (a.den : Int) ≠ 0 := by have := a.den_pos; omega
      have e1 : D / (a.den : Int) = q := by rw [hq]; exact Int.mul_ediv_cancel_left _ had
      have e2 : ((a.num * (D / (a.den : Int)) : Int) : Rat) = (D : Rat) * a := by
        rw [e1, hq, Rat.intCast_mul, Rat.intCast_mul, Rat.intCast_natCast, ← num_den a]
        grind
      rw [e2]
      grind
  exact key l (lcmDen l) (lcm_pos l).2
theorem start_ev (l : List Rat) : ∃ k : Rat, 0 < k ∧ ∀ x, evI (less (whole l)) x = k * ev l x := by
  obtain ⟨k, hk, e⟩ := evI_less (whole l)
  have hl : (0 : Rat) < (lcmDen l : Rat) := Rat.intCast_pos.mpr (lcm_pos l).1
  refine ⟨k⁻¹ * (lcmDen l : Rat), Rat.mul_pos (Rat.inv_pos.mpr hk) hl, fun x => ?_⟩
  have e1 := e x
  rw [evI_whole] at e1
  have kk : k⁻¹ * k = 1 := Rat.inv_mul_cancel k (by grind)
  have : k⁻¹ * (lcmDen l : Rat) * ev l x = (k⁻¹ * k) * evI (less (whole l)) x := by
    have : k⁻¹ * (lcmDen l : Rat) * ev l x = k⁻¹ * ((lcmDen l : Rat) * ev l x) := by grind
    rw [this, e1]; grind
  rw [this, kk]; grind
theorem whole_nz {l : List Rat} (h : trim l = l) : Nz (whole l) := by
  by_cases hl : l = []
  · left; rw [hl]; rfl
  · right
    have hz : l.getLastD 0 ≠ 0 := by
      have := last_ne (l := l) (by rw [h]; exact hl)
      rwa [h] at this
    unfold whole
    rw [List.getLastD_eq_getLast?, List.getLast?_map]
    rw [List.getLastD_eq_getLast?, List.getLast?_eq_some_getLast hl] at hz
    rw [List.getLast?_eq_some_getLast hl]
    show (l.getLast hl).num * (lcmDen l / ((l.getLast hl).den : Int)) ≠ 0
    have hc := List.getLast_mem hl
    generalize l.getLast hl = c at hz hc ⊢
    have hz : c ≠ 0 := hz
    obtain ⟨q, hq⟩ := (lcm_pos l).2 c hc
    have hp := (lcm_pos l).1
    have had : (c.den : Int) ≠ 0 := by have := c.den_pos; omega
    rw [hq, Int.mul_ediv_cancel_left _ had]
    refine Int.mul_ne_zero (fun z => hz (Rat.num_eq_zero.mp z)) fun z => ?_
    rw [z, Int.mul_zero] at hq
    omega
theorem start_nz {l : List Rat} (h : trim l = l) : Nz (less (whole l)) := (whole_nz h).less
theorem start_ne {l : List Rat} (h : l ≠ []) : less (whole l) ≠ [] := fun z => by
  have h1 := less_len (whole l)
  rw [z] at h1
  unfold whole at h1
  rw [List.length_map] at h1
  exact h (List.length_eq_zero_iff.mp (by simpa using h1.symm))
theorem slope_trim (l : List Rat) : trim (slope l) = slope l := trim_idem _
theorem srow_is (l : List Rat) : srow l = less (whole l) :: rowLoop (less (whole l)) (less (whole (slope l))) := rfl
theorem srow_last (l : List Rat) : (srow l).getLastD [] = rlast (less (whole l)) (less (whole (slope l))) := rfl
end Mf
end

-- text A11
section
set_option autoImplicit false
set_option linter.all false
/-! A11: the number of zeros between two fractions, from the row. -/
namespace Mf
/-! ### the program's signs and changes -/
theorem horner_ev (q x : Rat) (hx : x = q) : ∀ l : List Int, ((hornr q l).1 : Rat) * (q.den : Rat) = evI l x * ((hornr q l).2 : Rat) ∧ 0 < (hornr q l).2
  | [] => by
    refine ⟨?_, by show (0 : Int) < 1; decide⟩
    show ((0 : Int) : Rat) * _ = 0 * _
    rw [show ((0 : Int) : Rat) = 0 from rfl]
    grind
  | a :: l => by
    obtain ⟨h1, h2⟩ := horner_ev q x hx l
    have e : hornr q (a :: l) = ((hornr q l).1 * q.num + a * (hornr q l).2, (hornr q l).2 * q.den) := by
      unfold hornr
      rw [List.reverse_cons, List.foldl_append]
      rfl
    rw [e]
    have had : (0 : Int) < (q.den : Int) := by have := q.den_pos; omega
    refine ⟨?_, Int.mul_pos h2 had⟩
    show (((hornr q l).1 * q.num + a * (hornr q l).2 : Int) : Rat) * (q.den : Rat) = evI (a :: l) x * (((hornr q l).2 * q.den : Int) : Rat)
    rw [evI_cons, Rat.intCast_add, Rat.intCast_mul, Rat.intCast_mul, Rat.intCast_mul, Rat.intCast_natCast, hx]
    rw [hx] at h1
    have hn := num_den q
    rw [← hn]
    generalize ((hornr q l).1 : Rat) = f at h1 ⊢
    generalize ((hornr q l).2 : Rat) = b at h1 ⊢
    generalize (q.den : Rat) = d at h1 ⊢
    have : (f * (q * d) + (a : Rat) * b) * d = (f * d) * (q * d) + (a : Rat) * b * d := by grind
    rw [this, h1]
    grind
theorem signOf_ev (l : List Int) (q : Rat) : signOf l q = sg (evI l q) := by
  obtain ⟨h1, h2⟩ := horner_ev q q rfl l
  have hd : (0 : Rat) < (q.den : Rat) := Rat.natCast_pos.mpr q.den_pos
  have hb : (0 : Rat) < ((hornr q l).2 : Rat) := Rat.intCast_pos.mpr h2
  have e : sg ((hornr q l).1 : Rat) = sg (evI l q) := by
    rw [← sg_mul_pos (x := ((hornr q l).1 : Rat)) hd, Rat.mul_comm, h1, Rat.mul_comm, sg_mul_pos hb]
  rw [← e]
  unfold signOf sg
  have p1 : ((hornr q l).1 > 0) ↔ (0 : Rat) < ((hornr q l).1 : Rat) := Rat.intCast_pos.symm
  have p2 : ((hornr q l).1 < 0) ↔ ((hornr q l).1 : Rat) < 0 := by
    rw [show (0 : Rat) = ((0 : Int) : Rat) from rfl, Rat.intCast_lt_intCast]
  simp only [p1, p2]
theorem chg_is (s : List Int) : ((List.zipWith (fun a b => (a, b)) s (s.drop 1)).map fun ab => if ab.1 ≠ ab.2 then (1 : Int) else 0).sum = chg s := by
  match s with
  | [] => rfl
  | [a] => rfl
  | a :: b :: r =>
    have ih := chg_is (b :: r)
    show ((if a ≠ b then (1 : Int) else 0) :: ((List.zipWith (fun a b => (a, b)) (b :: r) r).map fun ab => if ab.1 ≠ ab.2 then (1 : Int) else 0)).sum = (if a ≠ b then 1 else 0) + chg (b :: r)
    rw [List.sum_cons]
    congr 1
theorem changes_vv (row : List (List Int)) (q : Rat) : changes row q = vv (sgs (row.map evI) q) := by
  unfold changes
  rw [chg_is]
  unfold vv signsAt sgs
  rw [List.map_map]
  congr 2
  exact List.map_congr_left fun l _ => signOf_ev l q
/-! ### a list that is a constant times the product of the unlike factors -/
theorem pf_list {f : Rat → Rat} (h : Pf f) : ∃ l, ∀ x, f x = ev l x := h
/-- slope nothing: the list is a constant -/
theorem const_of_slope {l : List Rat} (h : slope l = []) : ∀ x y, ev l x = ev l y := by
  have hd := hasD_slope l
  rw [h] at hd
  -- the list's own numbers behind the first are 0
  intro x y
  have h0 : trim ((sl 0 l).drop 1) = [] := h
  have key : ∀ (m : List Rat) (k : Nat), trim (sl (k + 1) m) = [] → trim m = [] := by
    intro m
    induction m with
    | nil => intro k _; rfl
    | cons a m ih =>
      intro k h
      rw [sl_cons, trim_cons] at h
      by_cases hm : trim (sl (k + 1 + 1) m) = []
      · rw [if_pos hm] at h
        by_cases ha : ((k + 1 : Nat) : Rat) * a = 0
        · have hk : (0 : Rat) < ((k + 1 : Nat) : Rat) := Rat.natCast_pos.mpr (by omega)
          have ha0 : a = 0 := (Rat.mul_eq_zero.mp ha).elim (fun z => by grind) id
          rw [trim_cons, if_pos (ih (k + 1) hm), if_pos ha0]
        · rw [if_neg ha] at h
          cases h
      · rw [if_neg hm] at h
        cases h
  cases l with
  | nil => rfl
  | cons a m =>
    rw [sl_cons] at h0
    have hm := key m 0 h0
    show a + x * ev m x = a + y * ev m y
    rw [trim_nil_ev hm, trim_nil_ev hm]
    grind
/-- the squarefree case -/
theorem count_ok {e : EM} (he : EOk e) {l : List Rat} {k : Rat} (hk : k ≠ 0) (hl : ∀ x, ev l x = k * pE e x) (htl : trim l = l) (hln : l ≠ []) (hlast : ((srow l).getLastD []).length = 1) (zs : List Zr) (hzs : zs = (keys e).flatMap zf) (nd : zs.Nodup) (hz : ∀ z ∈ zs, zgood z) (lo hi : Rat) (hlt : lo < hi) :
    changes (srow l) lo - changes (srow l) hi = ((zs.filter (inSt lo hi)).length : Nat) := by
  obtain ⟨k0, hk0, e0⟩ := start_ev l
  obtain ⟨k1, hk1, e1⟩ := start_ev (slope l)
  have hR := rowF_of _ (less (whole l)) (less (whole (slope l))) rfl (start_ne hln) (start_nz htl) (start_nz (slope_trim l)) hlast
  rw [changes_vv, changes_vv, srow_is]
  obtain ⟨s, hs, hsg⟩ := sg_pE e he.f
  have hks : sg k = 1 ∨ sg k = -1 := by
    rcases sg_cases k with ⟨_, h⟩ | ⟨_, h⟩ | ⟨h, _⟩
    · exact .inl h
    · exact .inr h
    · exact absurd h hk
  have hsgn : ∀ x, sg (ev l x) = (sg k * s) * psz zs x := fun x => by rw [hl, sg_mul, hsg, hzs, Int.mul_assoc]
  have hs0 : sg k * s = 1 ∨ sg k * s = -1 := by rcases hks with h | h <;> rcases hs with rfl | rfl <;> rw [h] <;> decide
  by_cases hsl : less (whole (slope l)) = []
  · -- a constant: no zeros
    have hs1 : slope l = [] := by
      by_cases hc : slope l = []
      · exact hc
      · exact absurd hsl (start_ne hc)
    have hc := const_of_slope hs1
    have hnone : zs = [] := by
      cases zs with
      | nil => rfl
      | cons z zs' =>
        exfalso
        -- a factor that is not constant divides a constant
        have fac : ∀ (f : Fa), f ∈ keys e → ∃ u : List Rat, ∀ x, pE e x = fv f x * ev u x := by
          have key : ∀ (e : EM) (f : Fa), f ∈ keys e → ∃ u : List Rat, ∀ x, pE e x = fv f x * ev u x := by
            intro e
            induction e with
            | nil => intro f h; simp [keys] at h
            | cons p r ih =>
              obtain ⟨g, m⟩ := p
              intro f h
              rcases List.mem_cons.mp h with h | h
              · obtain ⟨u, hu⟩ := pE_pf r
                refine ⟨u, fun x => ?_⟩
                rw [show f = g from h, ← hu]
                rfl
              · obtain ⟨u, hu⟩ := ih f h
                obtain ⟨w, hw⟩ := (fv_pf g).mul (Pf.ev u)
                refine ⟨w, fun x => ?_⟩
                have q := hw x
                simp only at q
                rw [← q]
                show fv g x * pE r x = _
                rw [hu]; grind
          exact key e
        have contra : ∀ f : Fa, f ∈ keys e → (∃ a b, fv f a ≠ fv f b) → False := by
          intro f hf ⟨a, b, hab⟩
          obtain ⟨u, hu⟩ := fac f hf
          have hne : k * pE e 0 ≠ 0 := by
            intro z0
            have : ∀ x, ev l x = 0 := fun x => by rw [hc x 0, hl]; exact z0
            have := trim_zero_of l fun x _ _ => this x
            rw [htl] at this
            exact hln this
          obtain ⟨w, hw⟩ := (Pf.const k).mul (Pf.ev u)
          obtain ⟨kk, _, hkk⟩ := unit_const (a := fpoly f) (b := w) hne fun x => by
            have q := hw x
            simp only at q
            rw [← q, ← hl 0, ← hc x 0, hl, hu]
            show fv f x * (k * ev u x) = _
            grind
          exact hab (by show ev (fpoly f) a = ev (fpoly f) b; rw [hkk, hkk])
        have hzm : z ∈ (keys e).flatMap zf := by rw [← hzs]; exact List.mem_cons_self
        cases z with
        | rat r => exact contra _ (mem_rat.mp hzm) ⟨r, r + 1, by rw [fv_lin, fv_lin]; grind⟩
        | root s' k' => exact contra _ (mem_root.mp hzm).2 ⟨0, 1, by rw [fv_sq, fv_sq]; grind⟩
    rw [hsl, rowLoop_nil, hnone]
    have : ∀ x, vv (sgs [evI (less (whole l))] x) = 0 := fun x => by
      show chg ([sg (evI (less (whole l)) x)].filter fun x => x ≠ 0) = 0
      by_cases h : sg (evI (less (whole l)) x) = 0
      · rw [h]; rfl
      · rw [List.filter_cons_of_pos (by simp [h])]; rfl
    show vv (sgs [evI (less (whole l))] lo) - vv (sgs [evI (less (whole l))] hi) = _
    rw [this, this]
    rfl
  · rw [rowLoop_ne hsl] at hR ⊢
    exact sturm hR (hasD_slope l) hk0 hk1 e0 e1 hs0 zs nd hz hsgn lo hi hlt
end Mf
end

-- text A12
section
set_option autoImplicit false
set_option linter.all false
/-! A12: the division; the number of zeros for every drawn polynomial. -/
namespace Mf
theorem ev_append (a b : List Rat) (x : Rat) : ev (a ++ b) x = ev a x + x ^ a.length * ev b x := by
  induction a with
  | nil => show ev b x = 0 + x ^ 0 * ev b x; rw [Rat.pow_zero]; grind
  | cons c a ih =>
    show c + x * ev (a ++ b) x = c + x * ev a x + x ^ (a.length + 1) * ev b x
    rw [ih, Rat.pow_succ]; grind
theorem ev_zip (b : Rat) (x : Rat) : ∀ p q : List Rat, p.length = q.length → ev (List.zipWith (fun m i => m - b * i) p q) x = ev p x - b * ev q x
  | [], [], _ => by show (0 : Rat) = 0 - b * 0; grind
  | [], _ :: _, h => by simp at h
  | _ :: _, [], h => by simp at h
  | m :: p, i :: q, h => by
    show (m - b * i) + x * ev (List.zipWith (fun m i => m - b * i) p q) x = (m + x * ev p x) - b * (i + x * ev q x)
    rw [ev_zip b x p q (by simpa using h)]
    grind
theorem ev_dropLast {l : List Rat} (h : l ≠ []) (h0 : l.getLastD 0 = 0) (x : Rat) : ev l.dropLast x = ev l x := by
  have e := List.dropLast_concat_getLast h
  rw [List.getLastD_eq_getLast?, List.getLast?_eq_some_getLast h] at h0
  rw [show l.getLast h = 0 from h0] at e
  conv => rhs; rw [← e]
  rw [ev_append]
  show _ = _ + _ * ((0 : Rat) + x * 0)
  grind
theorem zip_lastR (b : Rat) : ∀ p q : List Rat, p.length = q.length → p ≠ [] → (List.zipWith (fun m i => m - b * i) p q).getLastD 0 = p.getLastD 0 - b * q.getLastD 0
  | [], _, _, h => absurd rfl h
  | _ :: _, [], h, _ => by simp at h
  | [m], [i], _, _ => rfl
  | [m], i :: j :: q, h, _ => by simp at h
  | m :: n :: p, [i], h, _ => by simp at h
  | m :: n :: p, i :: j :: q, h, _ => by
    have ih := zip_lastR b (n :: p) (j :: q) (by simpa using h) (by simp)
    rw [List.zipWith_cons_cons, last_cons (by simp), ih, last_cons (a := m) (l := n :: p) (by simp), last_cons (a := i) (l := j :: q) (by simp)]
theorem pstep_ev {other rest : List Rat} (h0 : other ≠ []) (hl : other.getLastD 0 ≠ 0) (h : other.length ≤ rest.length) (x : Rat) : ev (pstep other rest) x = ev rest x - x ^ (rest.length - other.length) * (rest.getLastD 0 / other.getLastD 0 * ev other x) := by
  have hol := List.length_pos_iff.mpr h0
  have hdl : (rest.drop (rest.length - other.length)).length = other.length := by rw [List.length_drop]; omega
  have hdn : rest.drop (rest.length - other.length) ≠ [] := fun z => by rw [z] at hdl; simp at hdl; omega
  have hdla : (rest.drop (rest.length - other.length)).getLastD 0 = rest.getLastD 0 := by
    rw [List.getLastD_eq_getLast?, List.getLastD_eq_getLast?, List.getLast?_drop, if_neg (by omega)]
  have hzn : List.zipWith (fun m i => m - rest.getLastD 0 / other.getLastD 0 * i) (rest.drop (rest.length - other.length)) other ≠ [] := fun z => by
    have := congrArg List.length z
    rw [List.length_zipWith, hdl, List.length_nil] at this
    omega
  have hz0 : (List.zipWith (fun m i => m - rest.getLastD 0 / other.getLastD 0 * i) (rest.drop (rest.length - other.length)) other).getLastD 0 = 0 := by
    rw [zip_lastR _ _ _ hdl hdn, hdla, Rat.div_mul_cancel hl]
    grind
  show ev (trim (rest.take (rest.length - other.length) ++ (List.zipWith (fun m i => m - rest.getLastD 0 / other.getLastD 0 * i) (rest.drop (rest.length - other.length)) other).dropLast)) x = _
  rw [ev_trim, ev_append, ev_dropLast hzn hz0, ev_zip _ _ _ _ hdl, List.length_take, Nat.min_eq_left (by omega)]
  have e : ev rest x = ev (rest.take (rest.length - other.length)) x + x ^ (rest.length - other.length) * ev (rest.drop (rest.length - other.length)) x := by
    conv => lhs; rw [← List.take_append_drop (rest.length - other.length) rest]
    rw [ev_append, List.length_take, Nat.min_eq_left (by omega)]
  rw [e]
  grind
theorem ploop_ev {other : List Rat} (h0 : other ≠ []) (hl : other.getLastD 0 ≠ 0) : ∀ (n : Nat) (quo rest : List Rat), rest.length = n → rest.length + 1 - other.length ≤ quo.length → (∀ j, j < rest.length + 1 - other.length → quo.getD j 0 = 0) →
    (∀ x, ev quo x * ev other x + ev rest x = ev (ploop other quo rest).1 x * ev other x + ev (ploop other quo rest).2 x) ∧ (ploop other quo rest).2.length < other.length ∧ trim (ploop other quo rest).1 = (ploop other quo rest).1 := by
  intro n
  induction n using Nat.strongRecOn with
  | _ n ih =>
    intro quo rest hn hq hz
    rw [ploop]
    split
    · rename_i h
      have hol := List.length_pos_iff.mpr h0
      have hp := pstep_len h.1 h.2
      have hat : rest.length - other.length < quo.length := by omega
      have hset : quo.set (rest.length - other.length) (rest.getLastD 0 / other.getLastD 0) = addAt quo (rest.length - other.length) (rest.getLastD 0 / other.getLastD 0) := by
        unfold addAt
        rw [hz _ (by omega)]
        congr 1
        grind
      obtain ⟨i1, i2, i3⟩ := ih _ (by rw [← hn]; exact hp) (quo.set (rest.length - other.length) (rest.getLastD 0 / other.getLastD 0)) (pstep other rest) rfl (by rw [List.length_set]; omega) (fun j hj => by
        rw [List.getD_eq_getElem?_getD, List.getElem?_set_ne (by omega), ← List.getD_eq_getElem?_getD]
        exact hz j (by omega))
      refine ⟨fun x => ?_, i2, i3⟩
      rw [← i1 x, hset, ev_addAt _ _ _ _ hat, pstep_ev h.1 hl h.2]
      grind
    · rename_i h
      refine ⟨fun x => by rw [ev_trim], ?_, trim_idem _⟩
      by_cases hc : other.length ≤ rest.length
      · exact absurd ⟨h0, hc⟩ h
      · show rest.length < other.length
        omega
theorem parted_ev {one other : List Rat} (h0 : other ≠ []) (hl : other.getLastD 0 ≠ 0) : (∀ x, ev one x = ev (parted one other).1 x * ev other x + ev (parted one other).2 x) ∧ (parted one other).2.length < other.length ∧ trim (parted one other).1 = (parted one other).1 := by
  have h := ploop_ev h0 hl _ (List.replicate (one.length + 1 - other.length) 0) one rfl (by rw [List.length_replicate]; exact Nat.le_refl _) (fun j hj => by
    rw [List.getD_eq_getElem?_getD, List.getElem?_replicate]
    split <;> rfl)
  refine ⟨fun x => ?_, h.2.1, h.2.2⟩
  have := h.1 x
  rw [ev_zeros] at this
  have e : parted one other = ploop other (List.replicate (one.length + 1 - other.length) 0) one := rfl
  rw [e, ← this]
  grind
/-! ### the drawn polynomials -/
theorem cok_ne {c : Rat} (h : cok c) : c ≠ 0 := by
  obtain ⟨a, b, rfl, ha, hb⟩ := h
  rcases ha with rfl | rfl | rfl | rfl | rfl <;> rcases hb with rfl | rfl | rfl <;> decide +kernel
theorem mkp_trim (c : Rat) (hc : c ≠ 0) (L : List Fa) : trim (mkp c L) = mkp c L := by
  have key : ∀ (L : List Fa) (p : List Rat), trim p = p → trim (L.foldl (fun p f => lprod p (fpoly f)) p) = L.foldl (fun p f => lprod p (fpoly f)) p := by
    intro L
    induction L with
    | nil => intro p h; exact h
    | cons f L ih => intro p _; rw [List.foldl_cons]; exact ih _ (trim_idem _)
  exact key L [c] (by rw [trim_cons, if_pos trim_nil, if_neg hc])
theorem fv_100 (f : Fa) (h : fok f) : fv f 100 ≠ 0 := by
  cases f with
  | lin r =>
    obtain ⟨p, q, rfl, h1, h2, h3⟩ := h
    rw [fv_lin]
    intro z
    have e : Rat.divInt p q = 100 := by grind
    have h5 : (Rat.divInt p q) * (q : Rat) = (p : Rat) := by
      rw [Rat.divInt_eq_div]
      exact Rat.div_mul_cancel (by rcases h3 with rfl | rfl | rfl | rfl <;> decide +kernel)
    rw [e] at h5
    have h6 : (100 * q : Int) = p := by
      have : ((100 * q : Int) : Rat) = (p : Rat) := by rw [Rat.intCast_mul]; exact h5
      exact Rat.intCast_inj.mp this
    rcases h3 with rfl | rfl | rfl | rfl <;> omega
  | sq k =>
    rw [fv_sq]
    rcases h with rfl | rfl | rfl | rfl | rfl <;> decide +kernel
  | qa => rw [fv_qa]; decide +kernel
  | qb => rw [fv_qb]; decide +kernel
  | qc => rw [fv_qc]; decide +kernel
  | qd => rw [fv_qd]; decide +kernel
  | ng => rw [fv_ng]; decide +kernel
theorem fE_100 : ∀ e : EM, (∀ f ∈ keys e, fok f) → fE e 100 ≠ 0
  | [], _ => by show (1 : Rat) ≠ 0; decide +kernel
  | (f, m) :: r, h => by
    have ih := fE_100 r fun f hf => h f (List.mem_cons_of_mem _ hf)
    have hf := fv_100 f (h f List.mem_cons_self)
    have hp : ∀ n : Nat, fv f 100 ^ n ≠ 0 := by
      intro n
      induction n with
      | zero => rw [Rat.pow_zero]; decide +kernel
      | succ n ih => rw [Rat.pow_succ]; exact fun z => (Rat.mul_eq_zero.mp z).elim ih hf
    exact fun z => (Rat.mul_eq_zero.mp (show fv f 100 ^ m * fE r 100 = 0 from z)).elim (hp m) ih
theorem mkp_ne {c : Rat} {L : List Fa} (h : Good c L) : mkp c L ≠ [] := fun z => by
  have h1 := ev_mkp c L 100
  rw [z] at h1
  have h1 : (0 : Rat) = c * fE (em L) 100 := h1
  exact (Rat.mul_eq_zero.mp h1.symm).elim (cok_ne h.c) (fE_100 _ (good_eok h).f)
theorem getLast_cst {d : List Int} (h : Nz d) (hd : d ≠ []) : trim (cst d) = cst d ∧ cst d ≠ [] ∧ (cst d).getLastD 0 ≠ 0 := by
  have hl : (cst d).getLastD 0 ≠ 0 := by
    have h2 : d.getLastD 0 ≠ 0 := h.elim (fun z => absurd z hd) id
    unfold cst
    rw [List.getLastD_eq_getLast?, List.getLast?_map]
    rw [List.getLastD_eq_getLast?, List.getLast?_eq_some_getLast hd] at h2
    rw [List.getLast?_eq_some_getLast hd]
    show ((d.getLast hd : Int) : Rat) ≠ 0
    exact fun z => h2 (Rat.intCast_inj.mp (z.trans rfl))
  exact ⟨trim_of_last hl, fun z => hd (List.map_eq_nil_iff.mp z), hl⟩
/-- what the row's last one is: a constant times the part that comes several times; and the quotient by it -/
theorem last_is {c : Rat} {L : List Fa} (h : Good c L) : ∃ k : Rat, k ≠ 0 ∧ ∀ x, evI ((srow (mkp c L)).getLastD []) x = k * dE (em L) x := by
  have he := good_eok h
  have hc := cok_ne h.c
  have htl := mkp_trim c hc L
  have hln := mkp_ne h
  have hl : ∀ x, ev (mkp c L) x = c * (pE (em L) x * dE (em L) x) := fun x => by rw [ev_mkp, fE_pd _ he.p]
  have hsl : ∀ x, ev (slope (mkp c L)) x = c * (dE (em L) x * sE (em L) x) := fun x => by
    have h1 := hasD_slope (mkp c L)
    have h2 : HasD (ev (mkp c L)) fun x => c * (dE (em L) x * sE (em L) x) := ((HasD.const c).mul (fE_hasD _ he.p) (Pf.const c) (fE_pf _) (Pf.const 0) ((dE_pf _).mul (sE_pf _))).congr (fun x => ev_mkp c L x) fun x => by grind
    exact h1.unique h2 x
  obtain ⟨k0, hk0, e0⟩ := start_ev (mkp c L)
  obtain ⟨k1, hk1, e1⟩ := start_ev (slope (mkp c L))
  have n0 := start_ne hln
  have z0 := start_nz htl
  have z1 := start_nz (slope_trim (mkp c L))
  rw [srow_last]
  obtain ⟨zd, nd⟩ := rlast_nz _ _ _ rfl n0 z0 z1
  -- D divides d
  obtain ⟨w, hw⟩ := row_fwd (E := dE (em L)) _ _ _ rfl n0 z0 z1
    (by
      obtain ⟨u, hu⟩ := (Pf.const (k0 * c)).mul (pE_pf (em L))
      exact ⟨u, fun t => by have q := hu t; simp only at q; rw [← q, e0, hl]; grind⟩)
    (by
      obtain ⟨u, hu⟩ := (Pf.const (k1 * c)).mul (sE_pf (em L))
      exact ⟨u, fun t => by have q := hu t; simp only at q; rw [← q, e1, hsl]; grind⟩)
  -- d divides D
  obtain ⟨u, v, huv⟩ := row_dvd _ _ _ rfl n0 z0 z1
  obtain ⟨A, B, hA, hB, hAB⟩ := cop_ps (em L) he
  obtain ⟨w2, hw2⟩ := (hA.mul ((Pf.const (c⁻¹ * k0⁻¹)).mul (Pf.ev u))).add (hB.mul ((Pf.const (c⁻¹ * k1⁻¹)).mul (Pf.ev v)))
  have hD : ∀ t, dE (em L) t = ev w2 t * evI (rlast (less (whole (mkp c L))) (less (whole (slope (mkp c L))))) t := fun t => by
    have q := hw2 t
    simp only at q
    rw [← q]
    obtain ⟨h1, h2⟩ := huv t
    rw [e0, hl] at h1
    rw [e1, hsl] at h2
    have cc : c⁻¹ * c = 1 := Rat.inv_mul_cancel c hc
    have kk0 : k0⁻¹ * k0 = 1 := Rat.inv_mul_cancel k0 (by grind)
    have kk1 : k1⁻¹ * k1 = 1 := Rat.inv_mul_cancel k1 (by grind)
    have ab := hAB t
    generalize evI (rlast (less (whole (mkp c L))) (less (whole (slope (mkp c L))))) t = d at h1 h2 ⊢
    generalize dE (em L) t = D at h1 h2 ⊢
    generalize pE (em L) t = P at h1 ab
    generalize sE (em L) t = Sx at h2 ab
    have m1 : c⁻¹ * k0⁻¹ * (ev u t * d) = P * D := by
      rw [← h1]
      have : c⁻¹ * k0⁻¹ * (k0 * (c * (P * D))) = (c⁻¹ * c) * (k0⁻¹ * k0) * (P * D) := by grind
      rw [this, cc, kk0]; grind
    have m2 : c⁻¹ * k1⁻¹ * (ev v t * d) = D * Sx := by
      rw [← h2]
      have : c⁻¹ * k1⁻¹ * (k1 * (c * (D * Sx))) = (c⁻¹ * c) * (k1⁻¹ * k1) * (D * Sx) := by grind
      rw [this, cc, kk1]; grind
    have : (A t * (c⁻¹ * k0⁻¹ * ev u t) + B t * (c⁻¹ * k1⁻¹ * ev v t)) * d = A t * (c⁻¹ * k0⁻¹ * (ev u t * d)) + B t * (c⁻¹ * k1⁻¹ * (ev v t * d)) := by grind
    rw [this, m1, m2]
    have : A t * (P * D) + B t * (D * Sx) = (A t * P + B t * Sx) * D := by grind
    rw [this, ab]; grind
  -- w w2 = 1
  obtain ⟨t1, t2, t3⟩ := getLast_cst zd nd
  have hww : ∀ x, ev (pmul w w2) x = ev [1] x := cancel (m := cst (rlast (less (whole (mkp c L))) (less (whole (slope (mkp c L)))))) (by rw [t1]; exact t2) fun x => by
    have h1 := hw x
    have h2 := hD x
    have e : ev (cst (rlast (less (whole (mkp c L))) (less (whole (slope (mkp c L)))))) x = evI (rlast (less (whole (mkp c L))) (less (whole (slope (mkp c L))))) x := rfl
    rw [e, ev_pmul]
    show _ = (1 + x * 0) * _
    rw [h2] at h1
    grind
  obtain ⟨k, hk, hkc⟩ := unit_const (a := w) (b := w2) (c := 1) (by decide +kernel) fun x => by
    rw [← ev_pmul, hww]
    show 1 + x * 0 = 1
    grind
  exact ⟨k, hk, fun x => by rw [hw, hkc]⟩
end Mf
end

-- text A13
section
set_option autoImplicit false
set_option linter.all false
/-! A13: the law's number of zeros. -/
namespace Mf
/-- the last number's list has one entry when its values are one number -/
theorem len_one {d : List Int} (h : Nz d) (hd : d ≠ []) {k : Rat} (hk : k ≠ 0) (hc : ∀ x, evI d x = k) : d.length = 1 := by
  obtain ⟨t1, t2, t3⟩ := getLast_cst h hd
  have e : trim (cst d) = trim [k] := trim_eq_of _ _ fun x _ _ => by
    show evI d x = k + x * 0
    rw [hc]; grind
  rw [t1, trim_cons, if_pos trim_nil, if_neg hk] at e
  have := congrArg List.length e
  unfold cst at this
  simpa using this
/-- a constant times the unlike factors: the row ends in a constant -/
theorem prim_last {e : EM} (he : EOk e) {l : List Rat} {k : Rat} (hk : k ≠ 0) (hl : ∀ x, ev l x = k * pE e x) (htl : trim l = l) (hln : l ≠ []) : ((srow l).getLastD []).length = 1 := by
  obtain ⟨k0, hk0, e0⟩ := start_ev l
  obtain ⟨k1, hk1, e1⟩ := start_ev (slope l)
  have n0 := start_ne hln
  have z0 := start_nz htl
  have z1 := start_nz (slope_trim l)
  have hsl : ∀ x, ev (slope l) x = k * sE (ones e) x := fun x => by
    have h2 : HasD (ev l) fun x => k * sE (ones e) x := ((HasD.const k).mul (pE_hasD e) (Pf.const k) (pE_pf _) (Pf.const 0) (sE_pf _)).congr hl fun x => by grind
    exact (hasD_slope l).unique h2 x
  rw [srow_last]
  obtain ⟨zd, nd⟩ := rlast_nz _ _ _ rfl n0 z0 z1
  obtain ⟨u, v, huv⟩ := row_dvd _ _ _ rfl n0 z0 z1
  obtain ⟨A, B, hA, hB, hAB⟩ := cop_ps (ones e) he.ones
  obtain ⟨w2, hw2⟩ := (hA.mul ((Pf.const (k⁻¹ * k0⁻¹)).mul (Pf.ev u))).add (hB.mul ((Pf.const (k⁻¹ * k1⁻¹)).mul (Pf.ev v)))
  obtain ⟨kk, hkk, hc⟩ := unit_const (a := cst (rlast (less (whole l)) (less (whole (slope l))))) (b := w2) (c := 1) (by decide +kernel) fun t => by
    have q := hw2 t
    simp only at q
    rw [← q]
    obtain ⟨h1, h2⟩ := huv t
    rw [e0, hl] at h1
    rw [e1, hsl] at h2
    have cc : k⁻¹ * k = 1 := Rat.inv_mul_cancel k hk
    have kk0 : k0⁻¹ * k0 = 1 := Rat.inv_mul_cancel k0 (by grind)
    have kk1 : k1⁻¹ * k1 = 1 := Rat.inv_mul_cancel k1 (by grind)
    have ab := hAB t
    rw [pE_ones] at ab
    show evI (rlast (less (whole l)) (less (whole (slope l)))) t * _ = 1
    generalize evI (rlast (less (whole l)) (less (whole (slope l)))) t = d at h1 h2 ⊢
    generalize pE e t = P at h1 ab
    generalize sE (ones e) t = Sx at h2 ab
    have m1 : k⁻¹ * k0⁻¹ * (ev u t * d) = P := by
      rw [← h1]
      have : k⁻¹ * k0⁻¹ * (k0 * (k * P)) = (k⁻¹ * k) * (k0⁻¹ * k0) * P := by grind
      rw [this, cc, kk0]; grind
    have m2 : k⁻¹ * k1⁻¹ * (ev v t * d) = Sx := by
      rw [← h2]
      have : k⁻¹ * k1⁻¹ * (k1 * (k * Sx)) = (k⁻¹ * k) * (k1⁻¹ * k1) * Sx := by grind
      rw [this, cc, kk1]; grind
    have : d * (A t * (k⁻¹ * k0⁻¹ * ev u t) + B t * (k⁻¹ * k1⁻¹ * ev v t)) = A t * (k⁻¹ * k0⁻¹ * (ev u t * d)) + B t * (k⁻¹ * k1⁻¹ * (ev v t * d)) := by grind
    rw [this, m1, m2, ab]
  exact len_one zd nd hkk hc
def lastQ (row : List (List Int)) : List Rat := (row.getLastD []).map fun (n : Int) => (n : Rat)
/-- the quotient is a constant times the unlike factors -/
theorem quot_all {c : Rat} {L : List Fa} (h : Good c L) : ∃ k : Rat, k ≠ 0 ∧ (∀ x, ev (parted (mkp c L) (lastQ (srow (mkp c L)))).1 x = k * pE (em L) x) ∧ trim (parted (mkp c L) (lastQ (srow (mkp c L)))).1 = (parted (mkp c L) (lastQ (srow (mkp c L)))).1 ∧ (parted (mkp c L) (lastQ (srow (mkp c L)))).1 ≠ [] ∧ ∀ x, ev (parted (mkp c L) (lastQ (srow (mkp c L)))).1 x * evI ((srow (mkp c L)).getLastD []) x = ev (mkp c L) x := by
  have he := good_eok h
  have hc := cok_ne h.c
  obtain ⟨kd, hkd, hd⟩ := last_is h
  obtain ⟨zd, nd⟩ : Nz ((srow (mkp c L)).getLastD []) ∧ (srow (mkp c L)).getLastD [] ≠ [] := by
    rw [srow_last]
    exact rlast_nz _ _ _ rfl (start_ne (mkp_ne h)) (start_nz (mkp_trim c hc L)) (start_nz (slope_trim (mkp c L)))
  obtain ⟨t1, t2, t3⟩ := getLast_cst zd nd
  have eq : lastQ (srow (mkp c L)) = cst ((srow (mkp c L)).getLastD []) := rfl
  rw [eq]
  obtain ⟨p1, p2, p3⟩ := parted_ev (one := mkp c L) t2 t3
  have hl : ∀ x, ev (mkp c L) x = c * (pE (em L) x * dE (em L) x) := fun x => by rw [ev_mkp, fE_pd _ he.p]
  have kk : kd⁻¹ * kd = 1 := Rat.inv_mul_cancel kd hkd
  obtain ⟨q, hq⟩ := (Pf.const (c * kd⁻¹)).mul (pE_pf (em L))
  have hqd : ∀ x, ev q x * ev (cst ((srow (mkp c L)).getLastD [])) x = ev (mkp c L) x := fun x => by
    have q1 := hq x
    simp only at q1
    have e : ev (cst ((srow (mkp c L)).getLastD [])) x = evI ((srow (mkp c L)).getLastD []) x := rfl
    rw [← q1, e, hd, hl]
    have : c * kd⁻¹ * pE (em L) x * (kd * dE (em L) x) = c * (kd⁻¹ * kd) * (pE (em L) x * dE (em L) x) := by grind
    rw [this, kk]; grind
  have hrest : trim (parted (mkp c L) (cst ((srow (mkp c L)).getLastD []))).2 = [] := by
    by_cases hz : trim (parted (mkp c L) (cst ((srow (mkp c L)).getLastD []))).2 = []
    · exact hz
    · exfalso
      have := len_le_of_dvd (p := padd q (psc (-1) (parted (mkp c L) (cst ((srow (mkp c L)).getLastD []))).1)) (m := cst ((srow (mkp c L)).getLastD [])) (by rw [t1]; exact t2) hz fun x => by
        rw [ev_sub]
        have h1 := p1 x
        have h2 := hqd x
        rw [← h2] at h1
        grind
      have h2 := trim_len (parted (mkp c L) (cst ((srow (mkp c L)).getLastD []))).2
      rw [t1] at this
      omega
  have hg : ∀ x, ev (parted (mkp c L) (cst ((srow (mkp c L)).getLastD []))).1 x = ev q x := cancel (m := cst ((srow (mkp c L)).getLastD [])) (by rw [t1]; exact t2) fun x => by
    rw [hqd, p1 x, trim_nil_ev hrest]
    grind
  have hk : c * kd⁻¹ ≠ 0 := fun z => (Rat.mul_eq_zero.mp z).elim hc fun z => by
    rw [z] at kk
    grind
  have hgE : ∀ x, ev (parted (mkp c L) (cst ((srow (mkp c L)).getLastD []))).1 x = c * kd⁻¹ * pE (em L) x := fun x => by
    have q1 := hq x
    simp only at q1
    rw [hg, ← q1]
  refine ⟨c * kd⁻¹, hk, hgE, p3, fun z => ?_, fun x => (congrArg (· * _) (hg x)).trans (hqd x)⟩
  have h1 := hqd 100
  rw [← hg, z, ev_mkp] at h1
  have h1 : 0 * _ = c * fE (em L) 100 := h1
  rw [Rat.zero_mul] at h1
  exact (Rat.mul_eq_zero.mp h1.symm).elim hc (fE_100 _ he.f)
theorem quot_is {c : Rat} {L : List Fa} (h : Good c L) : ∃ k : Rat, k ≠ 0 ∧ (∀ x, ev (parted (mkp c L) (lastQ (srow (mkp c L)))).1 x = k * pE (em L) x) ∧ trim (parted (mkp c L) (lastQ (srow (mkp c L)))).1 = (parted (mkp c L) (lastQ (srow (mkp c L)))).1 ∧ (parted (mkp c L) (lastQ (srow (mkp c L)))).1 ≠ [] := by
  obtain ⟨k, h0, h1, h2, h3, _⟩ := quot_all h
  exact ⟨k, h0, h1, h2, h3⟩
theorem z_val {c : Rat} {L : List Fa} (h : Good c L) (lo hi : Rat) (hlt : lo < hi) : zbetween (mkp c L) lo hi = (((zsOf L).filter (inSt lo hi)).length : Nat) := by
  have he := good_eok h
  have hc := cok_ne h.c
  unfold zbetween crow
  simp only
  split
  · rename_i hlen
    obtain ⟨kd, hkd, hd⟩ := last_is h
    obtain ⟨zd, nd⟩ : Nz ((srow (mkp c L)).getLastD []) ∧ (srow (mkp c L)).getLastD [] ≠ [] := by
      rw [srow_last]
      exact rlast_nz _ _ _ rfl (start_ne (mkp_ne h)) (start_nz (mkp_trim c hc L)) (start_nz (slope_trim (mkp c L)))
    obtain ⟨cc, hcc, hcv⟩ := const_of hlen zd
    have kk : kd⁻¹ * kd = 1 := Rat.inv_mul_cancel kd hkd
    have hD : ∀ x, dE (em L) x = kd⁻¹ * cc := fun x => by
      have h1 := hd x
      rw [hcv] at h1
      rw [h1]
      have : kd⁻¹ * (kd * dE (em L) x) = (kd⁻¹ * kd) * dE (em L) x := by grind
      rw [this, kk]; grind
    have hk0 : c * (kd⁻¹ * cc) ≠ 0 := fun z => (Rat.mul_eq_zero.mp z).elim hc fun z => (Rat.mul_eq_zero.mp z).elim (fun z => by rw [z] at kk; grind) hcc
    exact count_ok he hk0 (fun x => by rw [ev_mkp, fE_pd _ he.p, hD]; grind) (mkp_trim c hc L) (mkp_ne h) hlen (zsOf L) (zs_keys L) (zs_nodup L) (zs_zgood h.f) lo hi hlt
  · obtain ⟨k, hk, h1, h2, h3⟩ := quot_is h
    exact count_ok he hk h1 h2 h3 (prim_last he hk h1 h2 h3) (zsOf L) (zs_keys L) (zs_nodup L) (zs_zgood h.f) lo hi hlt
end Mf
end

-- text A14
section
set_option autoImplicit false
set_option linter.all false
/-! A14: lengths and sizes of the drawn polynomials. -/
namespace Mf
/-! ### lengths -/
theorem lprod_len (l m : List Rat) : (lprod l m).length ≤ l.length + m.length - 1 := by
  unfold lprod
  refine Nat.le_trans (trim_len _) ?_
  rw [pout_len]
  unfold pzero
  rw [List.length_replicate]
  exact Nat.le_refl _
theorem mkp_len (c : Rat) (L : List Fa) : (mkp c L).length ≤ 1 + L.countP isLin + 2 * L.countP isSq + 2 * L.countP isQ + 4 * L.countP isX := by
  have key : ∀ (L : List Fa) (p : List Rat), (L.foldl (fun p f => lprod p (fpoly f)) p).length ≤ p.length + L.countP isLin + 2 * L.countP isSq + 2 * L.countP isQ + 4 * L.countP isX := by
    intro L
    induction L with
    | nil => intro p; simp
    | cons f L ih =>
      intro p
      rw [List.foldl_cons]
      have h1 := ih (lprod p (fpoly f))
      have h2 := lprod_len p (fpoly f)
      simp only [List.countP_cons]
      cases f <;> simp [fpoly, isLin, isSq, isQ, isX] at h1 h2 ⊢ <;> omega
  have := key L [c]
  exact this
theorem good_len {c : Rat} {L : List Fa} (h : Good c L) (hx : L.countP isX = 0) : (mkp c L).length < 19 := by
  have := mkp_len c L
  have := h.nl
  have := h.ns
  have := h.nq
  omega
theorem good_len80 {c : Rat} {L : List Fa} (h : Good c L) : (mkp c L).length ≤ 80 := by
  have := mkp_len c L
  have := h.nl
  have := h.ns
  have := h.nq
  have := h.nx
  omega
/-! ### sizes -/
def n1 (zs : List Int) : Nat := (zs.map Int.natAbs).sum
theorem n1_cons (a : Int) (l : List Int) : n1 (a :: l) = a.natAbs + n1 l := rfl
theorem n1_mem {z : Int} {l : List Int} (h : z ∈ l) : z.natAbs ≤ n1 l := by
  induction l with
  | nil => simp at h
  | cons a l ih =>
    rw [n1_cons]
    rcases List.mem_cons.mp h with rfl | h
    · omega
    · have := ih h; omega
theorem n1_set : ∀ (l : List Int) (k : Nat) (y : Int), n1 (l.set k (l.getD k 0 + y)) ≤ n1 l + y.natAbs
  | [], k, y => by simp [n1]
  | a :: l, 0, y => by
    show n1 ((a + y) :: l) ≤ _
    rw [n1_cons, n1_cons]
    have := Int.natAbs_add_le a y
    omega
  | a :: l, k + 1, y => by
    have ih := n1_set l k y
    show n1 (a :: l.set k (l.getD k 0 + y)) ≤ _
    rw [n1_cons, n1_cons]
    omega
def over (M : Nat) (zs : List Int) : List Rat := zs.map fun z : Int => (z : Rat) / (M : Rat)
def Sz (M B : Nat) (l : List Rat) : Prop := 0 < M ∧ ∃ zs, l = over M zs ∧ n1 zs ≤ B
theorem over_len (M : Nat) (zs : List Int) : (over M zs).length = zs.length := by unfold over; simp
theorem div_zero_iff {M : Nat} (hM : 0 < M) (z : Int) : (z : Rat) / (M : Rat) = 0 ↔ z = 0 := by
  have hm : (0 : Rat) < (M : Rat) := Rat.natCast_pos.mpr hM
  constructor
  · intro h
    have := Rat.div_mul_cancel (a := (z : Rat)) (b := (M : Rat)) (by grind)
    rw [h, Rat.zero_mul] at this
    exact Rat.intCast_inj.mp (this.symm.trans rfl)
  · intro h
    rw [h, Rat.div_def]
    exact Rat.zero_mul _
theorem over_trim {M : Nat} (hM : 0 < M) (zs : List Int) : trim (over M zs) = over M (trim zs) := by
  induction zs with
  | nil => rfl
  | cons a l ih =>
    have e : over M (a :: l) = (a : Rat) / (M : Rat) :: over M l := rfl
    rw [e, trim_cons, trim_cons, ih]
    by_cases h : trim l = []
    · have h' : over M (trim l) = [] := by rw [h]; rfl
      rw [if_pos h, if_pos h']
      by_cases ha : a = 0
      · rw [if_pos ha, if_pos ((div_zero_iff hM a).mpr ha)]
        rfl
      · rw [if_neg ha, if_neg (fun z => ha ((div_zero_iff hM a).mp z))]
        rfl
    · have h' : ¬ over M (trim l) = [] := fun z => h (List.map_eq_nil_iff.mp z)
      rw [if_neg h, if_neg h']
      rfl
theorem n1_trim (zs : List Int) : n1 (trim zs) ≤ n1 zs := by
  induction zs with
  | nil => exact Nat.le_refl _
  | cons a l ih =>
    rw [trim_cons]
    split
    · split
      · show 0 ≤ _; omega
      · rw [n1_cons, n1_cons]; show a.natAbs + 0 ≤ _; omega
    · rw [n1_cons, n1_cons]; omega
theorem over_addAt {M : Nat} (us : List Int) (k : Nat) (y : Int) : addAt (over M us) k ((y : Rat) / (M : Rat)) = over M (us.set k (us.getD k 0 + y)) := by
  unfold addAt
  have e : (over M us).getD k 0 + (y : Rat) / (M : Rat) = ((us.getD k 0 + y : Int) : Rat) / (M : Rat) ∨ us.length ≤ k := by
    by_cases h : k < us.length
    · left
      unfold over
      rw [List.getD_eq_getElem?_getD, List.getD_eq_getElem?_getD, List.getElem?_map, List.getElem?_eq_getElem h]
      show (us[k] : Rat) / (M : Rat) + (y : Rat) / (M : Rat) = ((us[k] + y : Int) : Rat) / (M : Rat)
      rw [Rat.intCast_add, Rat.div_def, Rat.div_def, Rat.div_def]
      grind
    · exact .inr (by omega)
  rcases e with e | e
  · rw [e]
    unfold over
    rw [List.map_set]
  · rw [List.set_eq_of_length_le (by rw [over_len]; exact e), List.set_eq_of_length_le e]
theorem div_mul_div (z w : Int) (M N : Nat) : (z : Rat) / (M : Rat) * ((w : Rat) / (N : Rat)) = ((z * w : Int) : Rat) / ((M * N : Nat) : Rat) := by
  rw [Rat.div_def, Rat.div_def, Rat.div_def, Rat.intCast_mul, Rat.natCast_mul, Rat.inv_mul_rev]
  grind
theorem pin_sz {M N : Nat} (z : Int) : ∀ (ws us : List Int) (k : Nat), ∃ vs, pin (over (M * N) us) k ((z : Rat) / (M : Rat)) (over N ws) = over (M * N) vs ∧ n1 vs ≤ n1 us + z.natAbs * n1 ws
  | [], us, k => ⟨us, rfl, by omega⟩
  | w :: ws, us, k => by
    have e : over N (w :: ws) = (w : Rat) / (N : Rat) :: over N ws := rfl
    rw [e, pin, div_mul_div, over_addAt]
    obtain ⟨vs, h1, h2⟩ := pin_sz (M := M) (N := N) z ws (us.set k (us.getD k 0 + z * w)) (k + 1)
    refine ⟨vs, h1, Nat.le_trans h2 ?_⟩
    have h3 := n1_set us k (z * w)
    rw [Int.natAbs_mul] at h3
    rw [n1_cons, Nat.mul_add]
    omega
theorem pout_sz {M N : Nat} (ws : List Int) : ∀ (zs us : List Int) (k : Nat), ∃ vs, pout (over (M * N) us) k (over N ws) (over M zs) = over (M * N) vs ∧ n1 vs ≤ n1 us + n1 zs * n1 ws
  | [], us, k => ⟨us, rfl, by omega⟩
  | z :: zs, us, k => by
    have e : over M (z :: zs) = (z : Rat) / (M : Rat) :: over M zs := rfl
    obtain ⟨v1, h1, h2⟩ := pin_sz (M := M) (N := N) z ws us k
    rw [e, pout, h1]
    obtain ⟨vs, h3, h4⟩ := pout_sz ws zs v1 (k + 1)
    refine ⟨vs, h3, Nat.le_trans h4 ?_⟩
    rw [n1_cons, Nat.add_mul]
    omega
theorem over_zero {M : Nat} (hM : 0 < M) (n : Nat) : List.replicate n (0 : Rat) = over M (List.replicate n 0) ∧ n1 (List.replicate n 0) = 0 := by
  constructor
  · unfold over
    rw [List.map_replicate, (div_zero_iff hM 0).mpr rfl]
  · induction n with
    | zero => rfl
    | succ n ih => rw [List.replicate_succ, n1_cons, ih]; rfl
theorem Sz.prod {M N A B : Nat} {l m : List Rat} (h : Sz M A l) (k : Sz N B m) : Sz (M * N) (A * B) (lprod l m) := by
  obtain ⟨hM, zs, rfl, hz⟩ := h
  obtain ⟨hN, ws, rfl, hw⟩ := k
  have hMN : 0 < M * N := Nat.mul_pos hM hN
  refine ⟨hMN, ?_⟩
  unfold lprod pzero
  obtain ⟨e1, e2⟩ := over_zero hMN ((over M zs).length + (over N ws).length - 1)
  rw [e1]
  obtain ⟨vs, h1, h2⟩ := pout_sz (M := M) (N := N) ws zs (List.replicate ((over M zs).length + (over N ws).length - 1) 0) 0
  rw [h1, over_trim hMN]
  refine ⟨_, rfl, Nat.le_trans (n1_trim _) (Nat.le_trans h2 ?_)⟩
  rw [e2, Nat.zero_add]
  exact Nat.mul_le_mul hz hw
end Mf
end

-- text A15
section
set_option autoImplicit false
set_option linter.all false
/-! A15: sizes of the drawn polynomials. -/
namespace Mf
def fM : Fa → Nat
  | .lin r => r.den
  | .qb => 4
  | .qd => 3
  | _ => 1
def fB : Fa → Nat
  | .lin r => r.num.natAbs + r.den
  | .sq k => k.natAbs + 1
  | .qa => 3
  | .qb => 5
  | .qc => 5
  | .qd => 16
  | .ng => 2
theorem self_div (r : Rat) : (r.num : Rat) / (r.den : Rat) = r := by
  have h := num_den r
  have hd : (r.den : Rat) ≠ 0 := by
    have := Rat.natCast_pos.mpr r.den_pos
    grind
  rw [← h, Rat.div_def]
  have : (r.den : Rat) * (r.den : Rat)⁻¹ = 1 := Rat.mul_inv_cancel _ hd
  grind
theorem fSz (f : Fa) : Sz (fM f) (fB f) (fpoly f) := by
  cases f with
  | lin r =>
    refine ⟨r.den_pos, [-r.num, r.den], ?_, ?_⟩
    · have hd : (r.den : Rat) ≠ 0 := by
        have := Rat.natCast_pos.mpr r.den_pos
        grind
      show [-r, (1 : Rat)] = [((-r.num : Int) : Rat) / (r.den : Rat), (((r.den : Nat) : Int) : Rat) / (r.den : Rat)]
      have e1 : ((-r.num : Int) : Rat) / (r.den : Rat) = -r := by
        have := self_div r
        rw [Rat.intCast_neg, Rat.div_def]
        rw [Rat.div_def] at this
        grind
      have e2 : (((r.den : Nat) : Int) : Rat) / (r.den : Rat) = 1 := by
        rw [Rat.intCast_natCast, Rat.div_def]
        exact Rat.mul_inv_cancel _ hd
      rw [e1, e2]
    · show (-r.num).natAbs + (((r.den : Nat) : Int).natAbs + 0) ≤ r.num.natAbs + r.den
      omega
  | sq k =>
    refine ⟨(show 0 < 1 by decide), [-k, 0, 1], ?_, ?_⟩
    · show [-(k : Rat), 0, 1] = [((-k : Int) : Rat) / ((1 : Nat) : Rat), ((0 : Int) : Rat) / ((1 : Nat) : Rat), ((1 : Int) : Rat) / ((1 : Nat) : Rat)]
      have e : ∀ z : Int, (z : Rat) / ((1 : Nat) : Rat) = (z : Rat) := fun z => by
        rw [Rat.div_def, show ((1 : Nat) : Rat)⁻¹ = 1 by decide +kernel]
        grind
      rw [e, e, e, Rat.intCast_neg]
      rfl
    · show (-k).natAbs + ((0 : Int).natAbs + ((1 : Int).natAbs + 0)) ≤ k.natAbs + 1
      have : (0 : Int).natAbs = 0 := rfl
      have : (1 : Int).natAbs = 1 := rfl
      omega
  | qa => exact ⟨by decide, [1, 1, 1], by decide +kernel, by decide⟩
  | qb => exact ⟨by decide, [1, 0, 4], by decide +kernel, by decide⟩
  | qc => exact ⟨by decide, [3, 1, 1], by decide +kernel, by decide⟩
  | qd => exact ⟨by decide, [1, 0, 0, 0, 15], by decide +kernel, by decide⟩
  | ng => exact ⟨by decide, [-2], by decide +kernel, by decide⟩
theorem divInt_le' {a b : Int} (h : 0 < b) : (Rat.divInt a b).num.natAbs ≤ a.natAbs ∧ ((Rat.divInt a b).den : Int) ≤ b := by
  have hd : b ≠ 0 := by omega
  rw [Rat.num_divInt, Rat.den_divInt, if_neg hd, Int.sign_eq_one_of_pos h, Int.one_mul]
  refine ⟨Int.natAbs_ediv_le_natAbs _ _, ?_⟩
  have : b.natAbs / b.gcd a ≤ b.natAbs := Nat.div_le_self _ _
  omega
theorem fM_le (f : Fa) (h : fok f) : fM f ≤ 7 := by
  cases f with
  | lin r =>
    obtain ⟨p, q, rfl, h1, h2, h3⟩ := h
    have := (divInt_le' (a := p) (b := q) (by omega)).2
    show (Rat.divInt p q).den ≤ 7
    omega
  | sq k => show 1 ≤ 7; decide
  | qa => show 1 ≤ 7; decide
  | qb => show 4 ≤ 7; decide
  | qc => show 1 ≤ 7; decide
  | qd => show 3 ≤ 7; decide
  | ng => show 1 ≤ 7; decide
def bB : Fa → Nat
  | .lin _ => 19
  | .sq _ => 11
  | .qa => 5
  | .qb => 5
  | _ => 16
theorem fB_le (f : Fa) (h : fok f) : fB f ≤ bB f := by
  cases f with
  | lin r =>
    obtain ⟨p, q, rfl, h1, h2, h3⟩ := h
    have := divInt_le' (a := p) (b := q) (by omega)
    show (Rat.divInt p q).num.natAbs + (Rat.divInt p q).den ≤ 19
    omega
  | sq k =>
    show k.natAbs + 1 ≤ 11
    rcases h with rfl | rfl | rfl | rfl | rfl <;> decide
  | qa => show 3 ≤ 5; decide
  | qb => show 5 ≤ 5; decide
  | qc => show 5 ≤ 16; decide
  | qd => show 16 ≤ 16; decide
  | ng => show 2 ≤ 16; decide
theorem c_sz {c : Rat} (h : cok c) : ∃ M, M ≤ 5 ∧ Sz M 7 [c] := by
  obtain ⟨a, b, rfl, ha, hb⟩ := h
  rcases hb with rfl | rfl | rfl
  · refine ⟨1, by decide, by decide, [a], ?_, by rcases ha with rfl | rfl | rfl | rfl | rfl <;> decide⟩
    rcases ha with rfl | rfl | rfl | rfl | rfl <;> decide +kernel
  · refine ⟨2, by decide, by decide, [a], ?_, by rcases ha with rfl | rfl | rfl | rfl | rfl <;> decide⟩
    rcases ha with rfl | rfl | rfl | rfl | rfl <;> decide +kernel
  · refine ⟨5, by decide, by decide, [a], ?_, by rcases ha with rfl | rfl | rfl | rfl | rfl <;> decide⟩
    rcases ha with rfl | rfl | rfl | rfl | rfl <;> decide +kernel
theorem Sz.mono {M A B : Nat} {l : List Rat} (h : Sz M A l) (hB : A ≤ B) : Sz M B l := by
  obtain ⟨hM, zs, e, hz⟩ := h
  exact ⟨hM, zs, e, Nat.le_trans hz hB⟩
def pB (L : List Fa) : Nat := (L.map bB).foldr (· * ·) 1
theorem mkp_sz {c : Rat} (hc : cok c) (L : List Fa) (hf : ∀ f ∈ L, fok f) : ∃ M, M ≤ 5 * 7 ^ L.length ∧ Sz M (7 * pB L) (mkp c L) := by
  have key : ∀ (L : List Fa) (p : List Rat) (M0 B0 : Nat), (∀ f ∈ L, fok f) → Sz M0 B0 p → ∃ M, M ≤ M0 * 7 ^ L.length ∧ Sz M (B0 * pB L) (L.foldl (fun p f => lprod p (fpoly f)) p) := by
    intro L
    induction L with
    | nil => intro p M0 B0 _ h; exact ⟨M0, by simp, by simpa [pB] using h⟩
    | cons f L ih =>
      intro p M0 B0 hf h
      have f0 := hf f List.mem_cons_self
      have h1 : Sz (M0 * fM f) (B0 * bB f) (lprod p (fpoly f)) := h.prod ((fSz f).mono (fB_le f f0))
      obtain ⟨M, hM, hS⟩ := ih _ _ _ (fun g hg => hf g (List.mem_cons_of_mem _ hg)) h1
      refine ⟨M, Nat.le_trans hM ?_, ?_⟩
      · rw [List.length_cons, Nat.pow_succ, Nat.mul_comm (7 ^ L.length) 7, ← Nat.mul_assoc]
        exact Nat.mul_le_mul_right _ (Nat.mul_le_mul_left _ (fM_le f f0))
      · rw [List.foldl_cons]
        have e : B0 * bB f * pB L = B0 * pB (f :: L) := by
          show _ = B0 * (bB f * pB L)
          rw [Nat.mul_assoc]
        rw [← e]
        exact hS
  obtain ⟨M0, hM0, h0⟩ := c_sz hc
  obtain ⟨M, hM, h⟩ := key L [c] M0 7 hf h0
  exact ⟨M, Nat.le_trans hM (Nat.mul_le_mul_right _ hM0), h⟩
theorem pB_is (L : List Fa) : pB L = 19 ^ L.countP isLin * 11 ^ L.countP isSq * 5 ^ L.countP isQ * 16 ^ L.countP isX := by
  induction L with
  | nil => rfl
  | cons f L ih =>
    show bB f * pB L = _
    rw [ih]
    simp only [List.countP_cons]
    cases f <;> simp [bB, isLin, isSq, isQ, isX, Nat.pow_succ] <;> grind
theorem good_pB {c : Rat} {L : List Fa} (h : Good c L) : 7 * pB L < 2 ^ 59 := by
  rw [pB_is]
  have h1 : 19 ^ L.countP isLin ≤ 19 ^ 10 := Nat.pow_le_pow_right (by decide) h.nl
  have h2 : 11 ^ L.countP isSq ≤ 11 ^ 2 := Nat.pow_le_pow_right (by decide) h.ns
  have h3 : 5 ^ L.countP isQ ≤ 5 ^ 1 := Nat.pow_le_pow_right (by decide) h.nq
  have h4 : 16 ^ L.countP isX ≤ 16 ^ 1 := Nat.pow_le_pow_right (by decide) h.nx
  have h5 := Nat.mul_le_mul (Nat.mul_le_mul (Nat.mul_le_mul h1 h2) h3) h4
  have h6 : 7 * (19 ^ 10 * 11 ^ 2 * 5 ^ 1 * 16 ^ 1) < 2 ^ 59 := by decide
  omega
theorem good_sz {c : Rat} {L : List Fa} (h : Good c L) : ∃ M, M < 2 ^ 60 ∧ ∃ B, B < 2 ^ 59 ∧ Sz M B (mkp c L) := by
  obtain ⟨M, hM, hS⟩ := mkp_sz h.c L h.f
  refine ⟨M, Nat.lt_of_le_of_lt hM ?_, _, good_pB h, hS⟩
  have hl : L.length ≤ 14 := by
    have key : ∀ L : List Fa, L.length = L.countP isLin + L.countP isSq + L.countP isQ + L.countP isX := by
      intro L
      induction L with
      | nil => rfl
      | cons f L ih => cases f <;> simp [List.countP_cons, isLin, isSq, isQ, isX, ih] <;> omega
    have := key L
    have := h.nl
    have := h.ns
    have := h.nq
    have := h.nx
    omega
  have h2 : 7 ^ L.length ≤ 7 ^ 14 := Nat.pow_le_pow_right (by decide) hl
  have h3 : 5 * 7 ^ 14 < 2 ^ 60 := by decide
  omega
end Mf
end

-- text A16
section
set_option autoImplicit false
set_option linter.all false
/-! A16: the size of a constant between two polynomials; the length of the quotient. -/
namespace Mf
def ez : List Int → Int
  | [] => 0
  | a :: l => a + 100 * ez l
theorem ez_abs : ∀ zs : List Int, (ez zs).natAbs ≤ n1 zs * 100 ^ zs.length
  | [] => Nat.zero_le _
  | a :: l => by
    have ih := ez_abs l
    rw [n1_cons, List.length_cons, Nat.pow_succ, ez]
    have h1 := Int.natAbs_add_le a (100 * ez l)
    have h2 : (100 * ez l).natAbs = 100 * (ez l).natAbs := by rw [Int.natAbs_mul]; rfl
    have h3 : 1 ≤ 100 ^ l.length := Nat.pow_pos (by decide)
    generalize 100 ^ l.length = p at *
    have h4 : a.natAbs * 1 ≤ a.natAbs * (p * 100) := Nat.mul_le_mul_left _ (by omega)
    have h5 : (a.natAbs + n1 l) * (p * 100) = a.natAbs * (p * 100) + 100 * (n1 l * p) := by
      grind
    omega
theorem ev_over (M : Nat) (hM : 0 < M) : ∀ zs : List Int, ev (over M zs) 100 * (M : Rat) = ((ez zs : Int) : Rat)
  | [] => by show (0 : Rat) * _ = 0; grind
  | a :: l => by
    have ih := ev_over M hM l
    have hm : (0 : Rat) < (M : Rat) := Rat.natCast_pos.mpr hM
    show ((a : Rat) / (M : Rat) + 100 * ev (over M l) 100) * (M : Rat) = ((a + 100 * ez l : Int) : Rat)
    have : (a : Rat) / (M : Rat) * (M : Rat) = (a : Rat) := Rat.div_mul_cancel (by grind)
    rw [Rat.intCast_add, Rat.intCast_mul, ← ih]
    have : ((100 : Int) : Rat) = 100 := rfl
    grind
theorem evI_100 : ∀ zs : List Int, evI zs 100 = ((ez zs : Int) : Rat)
  | [] => rfl
  | a :: l => by
    have ih := evI_100 l
    rw [evI_cons, ih]
    show _ = ((a + 100 * ez l : Int) : Rat)
    rw [Rat.intCast_add, Rat.intCast_mul]
    rfl
theorem q_small {k : Rat} {a b : Int} (hb : b ≠ 0) (h : k * (b : Rat) = (a : Rat)) : k.num.natAbs ≤ a.natAbs ∧ k.den ≤ b.natAbs := by
  have key : ∀ (a b : Int), 0 < b → k * (b : Rat) = (a : Rat) → k.num.natAbs ≤ a.natAbs ∧ k.den ≤ b.natAbs := fun a b hb h => by
    have e : k = Rat.divInt a b := by
      rw [Rat.divInt_eq_div, ← h]
      have hb2 : (b : Rat) ≠ 0 := fun z => by
        have := Rat.intCast_inj.mp (z.trans (show (0 : Rat) = ((0 : Int) : Rat) from rfl))
        omega
      rw [Rat.div_def, Rat.mul_assoc, Rat.mul_inv_cancel _ hb2, Rat.mul_one]
    obtain ⟨h1, h2⟩ := divInt_le' (a := a) (b := b) hb
    rw [← e] at h1 h2
    exact ⟨h1, by omega⟩
  by_cases h0 : 0 < b
  · exact key a b h0 h
  · obtain ⟨h1, h2⟩ := key (-a) (-b) (by omega) (by rw [Rat.intCast_neg, Rat.intCast_neg]; grind)
    rw [Int.natAbs_neg] at h1 h2
    exact ⟨h1, h2⟩
/-- a constant between small polynomials is small -/
theorem k_small {M N A B : Nat} {l m : List Rat} {d : List Int} (hl : Sz M A l) (hm : Sz N B m) {k : Rat} (h : ev l 100 = k * ev m 100 * evI d 100) (hne : ev l 100 ≠ 0) (ll : l.length ≤ 18) (lm : m.length ≤ 18) (ld : d.length ≤ 18) : k.num.natAbs ≤ A * 100 ^ 18 * N ∧ k.den ≤ M * (B * 100 ^ 18) * (n1 d * 100 ^ 18) := by
  obtain ⟨hM, zs, rfl, hz⟩ := hl
  obtain ⟨hN, ws, rfl, hw⟩ := hm
  rw [over_len] at ll lm
  have e1 := ev_over M hM zs
  have e2 := ev_over N hN ws
  have e3 := evI_100 d
  have a1 := ez_abs zs
  have a2 := ez_abs ws
  have a3 := ez_abs d
  have p : ∀ n, n ≤ 18 → 100 ^ n ≤ 100 ^ 18 := fun n hn => Nat.pow_le_pow_right (by decide) hn
  have b1 := Nat.mul_le_mul hz (p _ ll)
  have b2 := Nat.mul_le_mul hw (p _ lm)
  have b3 := Nat.mul_le_mul (Nat.le_refl (n1 d)) (p _ ld)
  have hMq : (0 : Rat) < (M : Rat) := Rat.natCast_pos.mpr hM
  have hNq : (0 : Rat) < (N : Rat) := Rat.natCast_pos.mpr hN
  have main : k * (((M : Int) * ez ws * ez d : Int) : Rat) = ((ez zs * (N : Int) : Int) : Rat) := by
    rw [Rat.intCast_mul, Rat.intCast_mul, Rat.intCast_mul, Rat.intCast_natCast, Rat.intCast_natCast, ← e1, ← e2, ← e3, h]
    grind
  have hb : ((M : Int) * ez ws * ez d) ≠ 0 := fun z => by
    rw [z] at main
    have main : k * 0 = ((ez zs * (N : Int) : Int) : Rat) := main
    rw [Rat.mul_zero] at main
    have m0 : (ez zs * (N : Int) : Int) = 0 := Rat.intCast_inj.mp main.symm
    have hz0 : ez zs = 0 := (Int.mul_eq_zero.mp m0).elim id (fun z => by omega)
    rw [hz0] at e1
    have e1 : ev (over M zs) 100 * (M : Rat) = 0 := e1
    exact (Rat.mul_eq_zero.mp e1).elim hne (fun z => by grind)
  obtain ⟨h1, h2⟩ := q_small hb main
  rw [Int.natAbs_mul, Int.natAbs_natCast] at h1
  rw [Int.natAbs_mul, Int.natAbs_mul, Int.natAbs_natCast] at h2
  exact ⟨Nat.le_trans h1 (Nat.mul_le_mul_right _ (Nat.le_trans a1 b1)), Nat.le_trans h2 (Nat.mul_le_mul (Nat.mul_le_mul_left _ (Nat.le_trans a2 b2)) (Nat.le_trans a3 b3))⟩
theorem ploop_len (other : List Rat) : ∀ (n : Nat) (quo rest : List Rat), rest.length = n → (ploop other quo rest).1.length ≤ quo.length := by
  intro n
  induction n using Nat.strongRecOn with
  | _ n ih =>
    intro quo rest hn
    rw [ploop]
    split
    · rename_i h
      have := ih _ (by rw [← hn]; exact pstep_len h.1 h.2) (quo.set (rest.length - other.length) (rest.getLastD 0 / other.getLastD 0)) (pstep other rest) rfl
      rwa [List.length_set] at this
    · exact trim_len quo
theorem parted_len {one other : List Rat} (h : other ≠ []) : (parted one other).1.length ≤ one.length := by
  have h1 := ploop_len other _ (List.replicate (one.length + 1 - other.length) 0) one rfl
  rw [List.length_replicate] at h1
  have h2 := List.length_pos_iff.mpr h
  unfold parted
  omega
end Mf
end

-- text W1
section
set_option Elab.async false
set_option linter.all false
set_option autoImplicit false
set_option maxRecDepth 100000
/-! W1: a small logic of pure data over the hand layer: slots, owned lists, expressions. -/
namespace L2
open PySem PySem.Spec PyProof.Rows Evl
mutual
theorem Dp.mono {K : PySem.W.Frag} {H H' : Hp} (e : Ex H H') : ∀ {v : V} {d : PyData}, Dp K H v d → Dp K H' v d
  | _, _, .non => .non
  | _, _, .bl b => .bl b
  | _, _, .int i => .int i
  | _, _, .str x => .str x
  | _, _, .lst h a => .lst (ex_l e h) (DpAll.mono e a)
  | _, _, .tup h a => .tup (ex_t e h) (DpAll.mono e a)
theorem DpAll.mono {K : PySem.W.Frag} {H H' : Hp} (e : Ex H H') : ∀ {vs : List V} {ds : List PyData}, DpAll K H vs ds → DpAll K H' vs ds
  | _, _, .nil => .nil
  | _, _, .cons h t => .cons (Dp.mono e h) (DpAll.mono e t)
end
theorem DpAll.length {K : PySem.W.Frag} {H : Hp} : ∀ {vs : List V} {ds : List PyData}, DpAll K H vs ds → vs.length = ds.length
  | _, _, .nil => rfl
  | _, _, .cons _ t => by rw [List.length_cons, List.length_cons, DpAll.length t]
theorem DpAll.get {K : PySem.W.Frag} {H : Hp} : ∀ {vs : List V} {ds : List PyData} {i : Nat} {d : PyData}, DpAll K H vs ds → ds[i]? = some d → ∃ v, vs[i]? = some v ∧ Dp K H v d
  | _, _, _, _, .nil, e => by simp at e
  | _, _, 0, _, .cons h _, e => by simp at e; subst e; exact ⟨_, rfl, h⟩
  | _, _, i + 1, _, .cons _ t, e => by
    obtain ⟨v, h1, h2⟩ := DpAll.get (i := i) t (by simpa using e)
    exact ⟨v, by simpa using h1, h2⟩
theorem DpAll.getV {K : PySem.W.Frag} {H : Hp} : ∀ {vs : List V} {ds : List PyData} {i : Nat} {v : V}, DpAll K H vs ds → vs[i]? = some v → ∃ d, ds[i]? = some d ∧ Dp K H v d
  | _, _, _, _, .nil, e => by simp at e
  | _, _, 0, _, .cons h _, e => by simp at e; subst e; exact ⟨_, rfl, h⟩
  | _, _, i + 1, _, .cons _ t, e => by
    obtain ⟨v, h1, h2⟩ := DpAll.getV (i := i) t (by simpa using e)
    exact ⟨v, by simpa using h1, h2⟩
theorem DpAll.append {K : PySem.W.Frag} {H : Hp} : ∀ {vs ws : List V} {ds es : List PyData}, DpAll K H vs ds → DpAll K H ws es → DpAll K H (vs ++ ws) (ds ++ es)
  | _, _, _, _, .nil, s => s
  | _, _, _, _, .cons r t, s => .cons r (DpAll.append t s)
theorem DpAll.take {K : PySem.W.Frag} {H : Hp} : ∀ {vs : List V} {ds : List PyData} (n : Nat), DpAll K H vs ds → DpAll K H (vs.take n) (ds.take n)
  | _, _, 0, _ => .nil
  | _, _, _ + 1, .nil => .nil
  | _, _, n + 1, .cons r t => .cons r (DpAll.take n t)
theorem DpAll.drop {K : PySem.W.Frag} {H : Hp} : ∀ {vs : List V} {ds : List PyData} (n : Nat), DpAll K H vs ds → DpAll K H (vs.drop n) (ds.drop n)
  | _, _, 0, r => r
  | _, _, _ + 1, .nil => .nil
  | _, _, n + 1, .cons _ t => DpAll.drop n t
theorem DpAll.set {K : PySem.W.Frag} {H : Hp} {x : V} {d : PyData} (r : Dp K H x d) : ∀ {vs : List V} {ds : List PyData} (i : Nat), DpAll K H vs ds → DpAll K H (vs.set i x) (ds.set i d)
  | _, _, _, .nil => .nil
  | _, _, 0, .cons _ t => .cons r t
  | _, _, i + 1, .cons q t => .cons q (DpAll.set r i t)
theorem DpAll.reverse {K : PySem.W.Frag} {H : Hp} {vs : List V} {ds : List PyData} (h : DpAll K H vs ds) : DpAll K H vs.reverse ds.reverse := by
  induction vs generalizing ds with
  | nil => cases h; exact .nil
  | cons v vs ih =>
    cases h with
    | cons r t =>
      rw [List.reverse_cons, List.reverse_cons]
      exact (ih t).append (.cons r .nil)
theorem DpAll.rep {K : PySem.W.Frag} {H : Hp} {vs : List V} {ds : List PyData} (h : DpAll K H vs ds) : ∀ k : Nat, DpAll K H (List.replicate k vs).flatten (List.replicate k ds).flatten
  | 0 => .nil
  | k + 1 => by
    rw [List.replicate_succ, List.replicate_succ, List.flatten_cons, List.flatten_cons]
    exact h.append (DpAll.rep h k)
theorem DpAll.dropLast {K : PySem.W.Frag} {H : Hp} {vs : List V} {ds : List PyData} (h : DpAll K H vs ds) : DpAll K H vs.dropLast ds.dropLast := by
  rw [List.dropLast_eq_take, List.dropLast_eq_take, h.length]
  exact h.take _
theorem DpAll.ints {K : PySem.W.Frag} {H : Hp} : ∀ {vs : List V} {ns : List Int}, DpAll K H vs (ns.map PyData.int) → vs = ns.map V.int
  | _, [], .nil => rfl
  | _, n :: ns, .cons r t => by
    cases r
    rw [List.map_cons, DpAll.ints t]
theorem DpAll.of_ints {K : PySem.W.Frag} {H : Hp} : ∀ (ns : List Int), DpAll K H (ns.map V.int) (ns.map PyData.int)
  | [] => .nil
  | n :: ns => .cons (.int n) (DpAll.of_ints ns)
theorem DpAll.bools {K : PySem.W.Frag} {H : Hp} : ∀ {vs : List V} {ns : List Bool}, DpAll K H vs (ns.map PyData.bool) → vs = ns.map V.bl
  | _, [], .nil => rfl
  | _, n :: ns, .cons r t => by
    cases r
    rw [List.map_cons, DpAll.bools t]

end L2
namespace Mf
open PySem PySem.Spec PyProof.Rows L2 Evl

/-! ### data and heaps -/
noncomputable def cut (M : Addr → Prop) (H : Hp) : Hp := fun a => open Classical in if M a then none else H a
theorem cut_some {M : Addr → Prop} {H : Hp} {a : Addr} {o : HO} : cut M H a = some o ↔ ¬ M a ∧ H a = some o := by
  unfold cut
  split <;> simp_all
theorem cut_of {M : Addr → Prop} {H : Hp} {a : Addr} {o : HO} (h : ¬ M a) (e : H a = some o) : cut M H a = some o := cut_some.mpr ⟨h, e⟩
theorem cut_le {M : Addr → Prop} {H : Hp} : Ex (cut M H) H := fun _ _ e => (cut_some.mp e).2
theorem cut_ex {M : Addr → Prop} {H H' : Hp} (e : Ex H H') : Ex (cut M H) (cut M H') := fun a o h => by
  obtain ⟨n, h⟩ := cut_some.mp h
  exact cut_of n (e a o h)

/-! ### what stands in the slots, the lists that are owned -/
abbrev Ow := List (Addr × List PyData)
def Mk (M0 : Addr → Prop) (ow : Ow) : Addr → Prop := fun a => M0 a ∨ a ∈ ow.map (·.1)
inductive SS where
  | any | dat (d : PyData) | adr (a : Addr)
def SR (K : PySem.W.Frag) (H : Hp) (o : Option V) : SS → Prop
  | .any => True
  | .dat d => ∃ v, o = some v ∧ Dp K H v d
  | .adr a => o = some (.ref a)
structure Hds (K : PySem.W.Frag) (M0 : Addr → Prop) (ss : List SS) (ow : Ow) (σ : L2.St) (H : Hp) : Prop where
  m0 : ∀ a, M0 a → H a ≠ none
  dj : ∀ p ∈ ow, ¬ M0 p.1
  nd : (ow.map (·.1)).Nodup
  own : ∀ p ∈ ow, ∃ vs, H p.1 = some (.lst vs) ∧ DpAll K (cut (Mk M0 ow) H) vs p.2
  len : σ.length = ss.length
  sl : ∀ (i : Nat) (s : SS), ss[i]? = some s → ∃ o, σ[i]? = some o ∧ SR K (cut (Mk M0 ow) H) o s
theorem SR.mono {K : PySem.W.Frag} {H H' : Hp} (e : Ex H H') {o : Option V} : ∀ {s : SS}, SR K H o s → SR K H' o s
  | .any, _ => trivial
  | .dat _, ⟨v, h, q⟩ => ⟨v, h, Dp.mono e q⟩
  | .adr _, h => h
section
variable {K : PySem.W.Frag} {M0 : Addr → Prop} {ss : List SS} {ow : Ow} {σ : L2.St} {H H' : Hp}
theorem Hds.mk_dom (g : Hds K M0 ss ow σ H) : ∀ a, Mk M0 ow a → H a ≠ none := fun a h => by
  rcases h with h | h
  · exact g.m0 a h
  · obtain ⟨p, hp, e⟩ := List.mem_map.mp h
    obtain ⟨vs, e1, _⟩ := g.own p hp
    rw [← e, e1]
    exact fun z => nomatch z
theorem Hds.ex (g : Hds K M0 ss ow σ H) (e : Ex H H') : Hds K M0 ss ow σ H' where
  m0 := fun a h => by
    cases q : H a with
    | none => exact absurd q (g.m0 a h)
    | some o => rw [e a o q]; exact fun z => nomatch z
  dj := g.dj
  nd := g.nd
  own := fun p hp => let ⟨vs, h1, h2⟩ := g.own p hp; ⟨vs, e _ _ h1, h2.mono (cut_ex e)⟩
  len := g.len
  sl := fun i s hs => let ⟨o, h1, h2⟩ := g.sl i s hs; ⟨o, h1, h2.mono (cut_ex e)⟩
/-- a slot is stored -/
theorem Hds.set (g : Hds K M0 ss ow σ H) {i : Nat} {v : V} {s : SS} (h : SR K (cut (Mk M0 ow) H) (some v) s) : Hds K M0 (ss.set i s) ow (σ.set i (some v)) H where
  m0 := g.m0
  dj := g.dj
  nd := g.nd
  own := g.own
  len := by rw [List.length_set, List.length_set]; exact g.len
  sl := fun j t ht => by
    by_cases hj : i = j
    · subst hj
      have hi : i < ss.length := by
        have := (List.getElem?_eq_some_iff.mp ht).1
        rwa [List.length_set] at this
      rw [List.getElem?_set_self hi] at ht
      cases ht
      exact ⟨some v, List.getElem?_set_self (by rw [g.len]; exact hi), h⟩
    · rw [List.getElem?_set_ne hj] at ht
      obtain ⟨o, h1, h2⟩ := g.sl j t ht
      exact ⟨o, by rw [List.getElem?_set_ne hj]; exact h1, h2⟩
theorem Hds.setD (g : Hds K M0 ss ow σ H) {i : Nat} {v : V} {d : PyData} (h : Dp K (cut (Mk M0 ow) H) v d) : Hds K M0 (ss.set i (.dat d)) ow (σ.set i (some v)) H := g.set ⟨v, rfl, h⟩
theorem Hds.dat (g : Hds K M0 ss ow σ H) {i : Nat} {d : PyData} (h : ss[i]? = some (.dat d)) : ∃ v, σ[i]? = some (some v) ∧ Dp K (cut (Mk M0 ow) H) v d := by
  obtain ⟨o, h1, v, rfl, h2⟩ := g.sl i _ h
  exact ⟨v, h1, h2⟩
theorem Hds.adr (g : Hds K M0 ss ow σ H) {i : Nat} {a : Addr} (h : ss[i]? = some (.adr a)) : σ[i]? = some (some (.ref a)) := by
  obtain ⟨o, h1, h2⟩ := g.sl i _ h
  rw [h1]
  exact congrArg some h2
end

/-! ### the static part of a context -/
structure Blt (mg : Str → Option Value) : Prop where
  len : mg "len" = none
  abs : mg "abs" = none
  max : mg "max" = none
  int : mg "int" = none
  list : mg "list" = none
  tuple : mg "tuple" = none
  bool : mg "bool" = none
  all : mg "all" = none
  sum : mg "sum" = none
  isinstance : mg "isinstance" = none
  repr : mg "repr" = none
  range : mg "range" = none
  zip : mg "zip" = none
  enumerate : mg "enumerate" = none
structure Stc where
  P : Program
  w : World
  K : PySem.W.Frag
  mg : Str → Option Value
  base : Heap
  N : List Str
  sc : Scope
  k : Nat
  /-- a def's own body (not a comprehension's block) -/
  own : Bool
structure Fits (S : Stc) (X : Cx) : Prop where
  prog : X.prog = S.P
  w : X.w = S.w
  K : X.K = S.K
  mg : X.mg = S.mg
  base : X.base = S.base
  N : X.N = S.N
  sc : X.env.scope = S.sc
  room : Room S.k X.A
  k32 : 32 ≤ S.k
  calm : X.calm = true
  xe : X.xe = fun _ _ => False
  stk : ∃ e l, X.stack = e :: l ∧ e.scope.isGenerator = false ∧ e.scope.isCoroutine = false ∧ e.builtins = builtinsNs ∧ e.globals = mainGlobals
  fn : S.own = true → X.fn = fun _ => true
  nd : S.N.Nodup
  blt : Blt S.mg
  seer : S.base.NoSeer
  tree : S.P.given.tree = none

/-- whatever reading fits -/
def tE (S : Stc) (e : Expr) : TE := fun σ H Q => ∃ t : TE, (∀ X, Fits S X → PE X e t) ∧ t σ H Q
def tT (S : Stc) (e : Expr) : TT := fun σ H Q => ∃ t : TT, (∀ X, Fits S X → PT X e t) ∧ t σ H Q
def tW (S : Stc) (e : Expr) : TT := fun σ H Q => ∃ t : TT, (∀ X, Fits S X → PW X e t) ∧ t σ H Q
def tA (S : Stc) (es : List Expr) : TA := fun σ H Q => ∃ t : TA, (∀ X, Fits S X → PA X es t) ∧ t σ H Q
def tSt (S : Stc) (st : Stmt) : TS := fun D σ H => ∃ t : TS, (∀ X, Fits S X → PS X st t) ∧ t D σ H
def tSs (S : Stc) (sts : List Stmt) : TS := fun D σ H => ∃ t : TS, (∀ X, Fits S X → PSs X sts t) ∧ t D σ H
section
variable {S : Stc} {X : Cx} {e : Expr} {es : List Expr} {st : Stmt} {sts : List Stmt}
theorem pe_tE (F : Fits S X) : PE X e (tE S e) := ⟨fun pins s σ H Q I ⟨t, h, q⟩ => (h X F).run pins s σ H Q I q⟩
theorem pt_tT (F : Fits S X) : PT X e (tT S e) := ⟨fun pins s σ H Q I ⟨t, h, q⟩ => (h X F).run pins s σ H Q I q⟩
theorem pw_tW (F : Fits S X) : PW X e (tW S e) := ⟨fun wh pins s σ H Q I ⟨t, h, q⟩ => (h X F).run wh pins s σ H Q I q⟩
theorem pa_tA (F : Fits S X) : PA X es (tA S es) := ⟨fun pos pins s σ H Q I ⟨t, h, q⟩ => (h X F).run pos pins s σ H Q I q⟩
theorem ps_tSt (F : Fits S X) : PS X st (tSt S st) := ⟨fun pins s σ H Q I ⟨t, h, q⟩ => (h X F).run pins s σ H Q I q⟩
theorem pss_tSs (F : Fits S X) : PSs X sts (tSs S sts) := ⟨fun pins s σ H Q I ⟨t, h, q⟩ => (h X F).run pins s σ H Q I q⟩
end

/-! ### judgements of expressions: pure, of data -/
structure B (S : Stc) (ss : List SS) (ow : Ow) (e : Expr) (d : PyData) : Prop where
  run : ∀ (M0 : Addr → Prop) (σ : L2.St) (H : Hp), Hds S.K M0 ss ow σ H → ∀ Q : VK, (∀ v H2, Ex H H2 → Dp S.K (cut (Mk M0 ow) H2) v d → Q v H2) → tE S e σ H Q
/-- a new list -/
structure BL (S : Stc) (ss : List SS) (ow : Ow) (e : Expr) (ds : List PyData) : Prop where
  run : ∀ (M0 : Addr → Prop) (σ : L2.St) (H : Hp), Hds S.K M0 ss ow σ H → ∀ Q : VK,
    (∀ p vs H2, H p = none → Ex H H2 → H2 p = some (.lst vs) → DpAll S.K (cut (fun a => Mk M0 ow a ∨ a = p) H2) vs ds → Q (.ref p) H2) → tE S e σ H Q
structure BT (S : Stc) (ss : List SS) (ow : Ow) (e : Expr) (b : Bool) : Prop where
  run : ∀ (M0 : Addr → Prop) (σ : L2.St) (H : Hp), Hds S.K M0 ss ow σ H → ∀ Q : Bool → Hp → Prop, (∀ H2, Ex H H2 → Q b H2) → tT S e σ H Q
structure BW (S : Stc) (ss : List SS) (ow : Ow) (e : Expr) (b : Bool) : Prop where
  run : ∀ (M0 : Addr → Prop) (σ : L2.St) (H : Hp), Hds S.K M0 ss ow σ H → ∀ Q : Bool → Hp → Prop, (∀ H2, Ex H H2 → Q b H2) → tW S e σ H Q
structure BA (S : Stc) (ss : List SS) (ow : Ow) (es : List Expr) (ds : List PyData) : Prop where
  run : ∀ (M0 : Addr → Prop) (σ : L2.St) (H : Hp), Hds S.K M0 ss ow σ H → ∀ Q : List V → Hp → Prop, (∀ vs H2, Ex H H2 → DpAll S.K (cut (Mk M0 ow) H2) vs ds → Q vs H2) → tA S es σ H Q

theorem cut_new {M : Addr → Prop} {H : Hp} {p : Addr} {o : HO} (hm : ∀ a, M a → H a ≠ none) (hp : H p = none) : cut M (upd H p o) p = some o :=
  cut_of (fun z => hm p z hp) upd_same
section
variable {S : Stc} {ss : List SS} {ow : Ow} {e a b c : Expr} {es : List Expr} {d d1 d2 : PyData} {ds : List PyData} {pos p : Pos} {x : Str} {i : Nat} {n m : Int}
theorem BL.toB (h : BL S ss ow e ds) : B S ss ow e (.list ds) := .mk fun M0 σ H g Q q => h.run M0 σ H g _ fun p vs H2 hp ex h2 hd => by
  have hm : ¬ Mk M0 ow p := fun z => g.mk_dom p z hp
  refine q _ _ ex (.lst (.inl (.inl (cut_of hm h2))) (hd.mono fun a o ha => ?_))
  obtain ⟨n, ha⟩ := cut_some.mp ha
  exact cut_of (fun z => n (.inl z)) ha

/-! names, constants -/
theorem b_var (h : ss[i]? = some (.dat d)) (hi : S.N[i]? = some x) (hv : Vis S.sc x) (hd : (x == ("__debug__" : Str)) = false := by decide) (hcd : (x == ("__classdict__" : Str)) = false := by decide) : B S ss ow (.Name x pos) d := .mk fun M0 σ H g Q q => by
    obtain ⟨v, h1, h2⟩ := g.dat h
    exact ⟨tVar i, fun X F => pe_var (by rw [F.N]; exact hi) (by rw [F.sc]; exact hv) hd hcd, v, h1, q v H (Ex.refl H) h2⟩
theorem b_int {j : Nat} : B S ss ow (.Constant (.int n) j pos) (.int n) := .mk fun M0 σ H g Q q => ⟨_, fun X F => pe_int, q _ H (Ex.refl H) (.int n)⟩
theorem b_non {j : Nat} : B S ss ow (.Constant .none j pos) .none := .mk fun M0 σ H g Q q => ⟨_, fun X F => pe_non, q _ H (Ex.refl H) .non⟩
theorem b_bool {j : Nat} {t : Bool} : B S ss ow (.Constant (.bool t) j pos) (.bool t) := .mk fun M0 σ H g Q q => ⟨_, fun X F => pe_bl, q _ H (Ex.refl H) (.bl t)⟩
theorem b_str {j : Nat} {z : Str} : B S ss ow (.Constant (.str z) j pos) (.str z) := .mk fun M0 σ H g Q q => ⟨_, fun X F => pe_str, q _ H (Ex.refl H) (.str z)⟩
/-- a constant of the module -/
theorem b_glob {v : V} {u : Value} (hg : S.sc.names.lookup x = some .globalImplicit) (hm : S.mg x = some u) (r : RelV v u) (h : Dp S.K (fun _ => none) v d) (hd : (x == ("__debug__" : Str)) = false := by decide) : B S ss ow (.Name x pos) d := .mk fun M0 σ H g Q q => ⟨tC v, fun X F => pe_glob (show X.env.scope.names.lookup x = _ by rw [F.sc]; exact hg) (by rw [F.mg]; exact hm) r hd, q v H (Ex.refl H) (h.mono fun a o (z : (none : Option HO) = some o) => by cases z)⟩

/-! operators -/
theorem b_op2 {op : Operator} {r : R2} (ho : ∀ X, Fits S X → OpR X (binaryOp op) r) (ha : B S ss ow a d1) (hb : B S ss ow b d2)
    (hr : ∀ (M0 : Addr → Prop) (σ : L2.St) (x y : V) (H : Hp), Hds S.K M0 ss ow σ H → Dp S.K (cut (Mk M0 ow) H) x d1 → Dp S.K (cut (Mk M0 ow) H) y d2 → ∀ Q : VK, (∀ v H2, Ex H H2 → Dp S.K (cut (Mk M0 ow) H2) v d → Q v H2) → r x y H Q) : B S ss ow (.BinOp a op b pos) d := .mk fun M0 σ H g Q q =>
  ⟨tOp r (tE S a) (tE S b), fun X F => pe_op (ho X F) (pe_tE F) (pe_tE F), ha.run M0 σ H g _ fun v H1 e1 h1 => hb.run M0 σ H1 (g.ex e1) _ fun u H2 e2 h2 =>
    hr M0 σ v u H2 (g.ex (e1.trans e2)) (h1.mono (cut_ex e2)) h2 Q fun z H3 e3 h3 => q z H3 ((e1.trans e2).trans e3) h3⟩
theorem b_opI {op : Operator} {C : Int → Int → Prop} {f : Int → Int → Int} (ho : ∀ X, Fits S X → OpR X (binaryOp op) (rI C fun i j => .int (f i j))) (ha : B S ss ow a (.int n)) (hb : B S ss ow b (.int m)) (hc : C n m) : B S ss ow (.BinOp a op b pos) (.int (f n m)) :=
  b_op2 ho ha hb fun M0 σ x y H g hx hy Q q => by
    cases hx
    cases hy
    exact ⟨n, m, rfl, rfl, hc, q _ H (Ex.refl H) (.int _)⟩
theorem b_add (ha : B S ss ow a (.int n)) (hb : B S ss ow b (.int m)) : B S ss ow (.BinOp a .Add b pos) (.int (n + m)) :=
  b_op2 (fun X F => op_add) ha hb fun M0 σ x y H g hx hy Q q => by
    cases hx
    cases hy
    exact ⟨n, m, rfl, rfl, q _ H (Ex.refl H) (.int _)⟩
theorem b_sub (ha : B S ss ow a (.int n)) (hb : B S ss ow b (.int m)) : B S ss ow (.BinOp a .Sub b pos) (.int (n - m)) :=
  b_op2 (fun X F => op_sub) ha hb fun M0 σ x y H g hx hy Q q => by
    cases hx
    cases hy
    exact ⟨n, m, rfl, rfl, q _ H (Ex.refl H) (.int _)⟩
/-- * : the factors' bits together within the line -/
theorem b_mul (ha : B S ss ow a (.int n)) (hb : B S ss ow b (.int m)) (hc : IntMulOk n m) : B S ss ow (.BinOp a .Mult b pos) (.int (n * m)) :=
  b_opI (C := IntMulOk) (fun X F => opI fun _ _ _ _ _ _ _ hc q => mul_int q hc) ha hb hc
theorem b_mod (ha : B S ss ow a (.int n)) (hb : B S ss ow b (.int m)) (hc : 0 < m) : B S ss ow (.BinOp a .Mod b pos) (.int (n % m)) := b_opI (fun X F => op_mod) ha hb hc
theorem b_pow (ha : B S ss ow a (.int n)) (hb : B S ss ow b (.int m)) (hc : CPow n m) : B S ss ow (.BinOp a .Pow b pos) (.int (n ^ m.toNat)) := b_opI (fun X F => op_pow) ha hb hc
/-- // of ints of any size by a positive one -/
theorem op_fdivP {X : Cx} (F : Fits S X) : OpR X (binaryOp .FloorDiv) (rI (fun _ j => 0 < j) fun i j => .int (i / j)) := by
  intro pins s σ H x y v u Q I rx ry h
  obtain ⟨i, j, rfl, rfl, hc, q⟩ := h
  obtain ⟨t, rfl⟩ := rx
  obtain ⟨t', rfl⟩ := ry
  have hc : (0 : Int) < j := hc
  obtain ⟨e, l, h1, h2, h3, h4, h5⟩ := F.stk
  have hN : s.heap.NoSeer := PySem.Heap.NoSeer.keeps (h := X.base) (by rw [F.base]; exact F.seer) I.bk
  have hS : PySem.SeerAt (model X.prog X.w) X.A s.heap := PySem.SeerAt.of hN (by show X.prog.given.tree = none; rw [F.prog]; exact F.tree) (I.ok.frames.trans (congrArg some h1)) h2 h3 h4 h5
  have hR : PySem.PylongRoom (model X.prog X.w) X.A s := PySem.PylongRoom.of I.nolimit (by
    have h1 := F.room.dp
    have h2 := F.k32
    have h3 : Builtin.pylongFrames = 100 := rfl
    omega) hS
  exact floordiv_int (by omega) (by rw [Int.fdiv_eq_ediv_of_nonneg i (by omega)]; exact ⟨.int (i / j), H, I.tok _, ⟨_, rfl⟩, q⟩) (.inr hR)
theorem b_fdiv (ha : B S ss ow a (.int n)) (hb : B S ss ow b (.int m)) (hc : 0 < m) : B S ss ow (.BinOp a .FloorDiv b pos) (.int (n / m)) := b_opI (fun X F => op_fdivP F) ha hb hc
theorem b_neg (ha : B S ss ow a (.int n)) : B S ss ow (.UnaryOp .USub a pos) (.int (-n)) := .mk fun M0 σ H g Q q =>
  ⟨tUn (rU fun i => .int (-i)) (tE S a), fun X F => pe_un un_neg (pe_tE F), ha.run M0 σ H g _ fun v H1 e1 h1 => by
    cases h1
    exact ⟨n, rfl, q _ H1 e1 (.int _)⟩⟩
end
end Mf
end

-- text W2
section
set_option Elab.async false
set_option linter.all false
set_option autoImplicit false
set_option maxRecDepth 100000
/-! W2: expressions: arguments, displays, indices, slices, comparisons, tests, built-ins. -/
namespace Mf
open PySem PySem.Spec PyProof.Rows L2 Evl

theorem gl_of {S : Stc} {X : Cx} (F : Fits S X) {x : Str} (h : S.sc.names.lookup x = some .globalImplicit) : Gl X x := show X.env.scope.names.lookup x = _ by rw [F.sc]; exact h
/-- + of two lists, read in any way -/
def rCatS (K : PySem.W.Frag) : R2 := fun x y H Q => ∃ l b xs zs, x = .ref l ∧ y = .ref b ∧ SqL K H l xs ∧ SqL K H b zs ∧ xs.length + zs.length ≤ sizeLine ∧ ∀ p, H p = none → Q (.ref p) (upd H p (.lst (xs ++ zs)))
theorem op_catS {X : Cx} : OpR X (binaryOp .Add) (rCatS X.K) := by
  intro pins s σ H x y v u Q I rx ry h
  obtain ⟨l, b, xs, zs, rfl, rfl, hH, hB, hz, q⟩ := h
  cases rx
  cases ry
  obtain ⟨vs, r, p1, z1⟩ := I.list hH
  obtain ⟨ws, r2, p2, z2⟩ := I.list hB
  obtain ⟨⟨cls, dd, data, sl⟩, ho, hc, n, hd⟩ := p1.isList
  obtain ⟨⟨cls2, dd2, data2, sl2⟩, ho2, hc2, n2, hd2⟩ := p2.isList
  simp only at hc hd hc2 hd2
  subst hc hd hc2 hd2
  have hl := r.length
  have hl2 := r2.length
  have e : vs.toArray ++ ws.toArray = (vs ++ ws).toArray := by simp
  refine concat_meets ⟨_, ho, rfl⟩ ⟨_, ho2, rfl⟩ noFill_list_add seq_list_add PySem.F.slot_list_add PySem.F.entry_list_add (PySem.F.args_list_add_2 _ _) (list_addW l b vs.toArray ws.toArray n n2 dd dd2 sl sl2 (by simp; omega)) ⟨ho, ho2, ?_⟩
  rw [e]
  exact ⟨.ref _, _, I.lnew (t' := s.toks) (r.append r2) (by rw [List.length_append]; omega), rfl, q _ I.fresh⟩

section
variable {S : Stc} {ss : List SS} {ow : Ow} {e a b c : Expr} {es rest : List Expr} {d d1 d2 : PyData} {ds ds1 ds2 : List PyData} {pos p : Pos} {x : Str} {i : Nat} {n m : Int} {t u : Bool}

/-! ### arguments, displays -/
theorem ba_nil : BA S ss ow [] [] := .mk fun M0 σ H g Q q => ⟨tNil, fun X F => pa_nil, q _ H (Ex.refl H) .nil⟩
theorem ba_cons (ha : B S ss ow e d) (hr : BA S ss ow es ds) (hs : ∀ env : Env, starEach (e :: es) env = (false, eval e env) :: starEach es env) : BA S ss ow (e :: es) (d :: ds) := .mk fun M0 σ H g Q q =>
  ⟨tCons (tE S e) (tA S es), fun X F => pa_cons (pe_tE F) (pa_tA F) (hs _), ha.run M0 σ H g _ fun v H1 e1 h1 => hr.run M0 σ H1 (g.ex e1) _ fun vs H2 e2 h2 => q (v :: vs) H2 (e1.trans e2) (.cons (h1.mono (cut_ex e2)) h2)⟩
theorem ba_starL (ha : B S ss ow e (.list ds1)) (hr : BA S ss ow es ds) (hs : ∀ env : Env, starEach (.Starred e p :: es) env = (true, eval e env) :: starEach es env) : BA S ss ow (.Starred e p :: es) (ds1 ++ ds) := .mk fun M0 σ H g Q q =>
  ⟨StX.tStar S.K (tE S e) (tA S es), fun X F => by have := StX.pa_star (X := X) (p := p) (pe_tE F) (pa_tA F) (hs X.env); rwa [F.K] at this, ha.run M0 σ H g _ fun v H1 e1 h1 => by
    cases h1 with
    | @lst pa xs ds' hL hd => exact ⟨pa, xs, rfl, .inr (ex_l cut_le hL), hr.run M0 σ H1 (g.ex e1) _ fun vs H2 e2 h2 => q (xs ++ vs) H2 (e1.trans e2) ((hd.mono (cut_ex e2)).append h2)⟩⟩
theorem b_tup {x1} (ha : BA S ss ow es ds) (hl : ds.length ≤ 100000) : B S ss ow (.Tuple es x1 pos) (.tuple ds) := .mk fun M0 σ H g Q q =>
  ⟨tTup (tA S es), fun X F => pe_tup (pa_tA F), ha.run M0 σ H g _ fun vs H1 e1 h1 => ⟨by rw [h1.length]; exact sz_of hl, fun p hp => by
    have hm := (g.ex e1).mk_dom
    refine q _ _ (e1.trans (Ex.new hp)) (.tup (.inl (.inl (cut_new hm hp))) (h1.mono (cut_ex (Ex.new hp))))⟩⟩
theorem cut_or_new {M : Addr → Prop} {H : Hp} {p : Addr} {o : HO} (hp : H p = none) : Ex (cut M H) (cut (fun a => M a ∨ a = p) (upd H p o)) := fun a u h => by
  obtain ⟨n, h⟩ := cut_some.mp h
  have hap : a ≠ p := ne_of_none h hp
  exact cut_of (fun z => z.elim n hap) (by rw [upd_ne hap]; exact h)
theorem bl_lst (ha : BA S ss ow es ds) (hl : ds.length ≤ 100000) : BL S ss ow (.List es pos) ds := .mk fun M0 σ H g Q q =>
  ⟨tLst (tA S es), fun X F => pe_lst (pa_tA F), ha.run M0 σ H g _ fun vs H1 e1 h1 => ⟨by rw [h1.length]; exact sz_of hl, fun p hp =>
    q p vs _ (fresh_back e1 hp) (e1.trans (Ex.new hp)) upd_same (h1.mono (cut_or_new hp))⟩⟩
/-- [..] * n -/
theorem bl_rep (ha : BL S ss ow a ds) (hb : B S ss ow b (.int n)) (hn : -1000 ≤ n ∧ n ≤ 1000) (hl : ds.length ≤ 100) : BL S ss ow (.BinOp a .Mult b pos) (List.replicate n.toNat ds).flatten := .mk fun M0 σ H g Q q =>
  ⟨tOp rRep (tE S a) (tE S b), fun X F => pe_op op_rep (pe_tE F) (pe_tE F), ha.run M0 σ H g _ fun p vs H1 hp e1 h1 hd => hb.run M0 σ H1 (g.ex e1) _ fun y H2 e2 hy => by
    cases hy
    have hlen : vs.length = ds.length := hd.length
    refine ⟨p, n, vs, rfl, rfl, e2 _ _ h1, by omega, by omega, ?_, fun l hl' => ?_⟩
    · have : vs.length * n.toNat ≤ 100 * 1000 := Nat.mul_le_mul (by omega) (by omega)
      exact Nat.le_trans this (by decide)
    · have e3 := (e1.trans e2).trans (Ex.new (o := .lst (List.replicate n.toNat vs).flatten) hl')
      refine q l _ _ (fresh_back (e1.trans e2) hl') e3 upd_same ?_
      refine DpAll.mono (H := cut (Mk M0 ow) H2) (cut_or_new hl') (DpAll.rep (hd.mono fun a' o ha' => ?_) _)
      obtain ⟨n1, ha'⟩ := cut_some.mp ha'
      exact cut_of (fun z => n1 (.inl z)) (e2 _ _ ha')⟩
/-- + of lists -/
theorem bl_cat (ha : B S ss ow a (.list ds1)) (hb : B S ss ow b (.list ds2)) (hl : ds1.length + ds2.length ≤ 100000) : BL S ss ow (.BinOp a .Add b pos) (ds1 ++ ds2) := .mk fun M0 σ H g Q q =>
  ⟨tOp (rCatS S.K) (tE S a) (tE S b), fun X F => by have := pe_op (X := X) (pos := pos) op_catS (pe_tE (e := a) F) (pe_tE (e := b) F); rwa [F.K] at this, ha.run M0 σ H g _ fun v H1 e1 h1 => hb.run M0 σ H1 (g.ex e1) _ fun y H2 e2 h2 => by
    cases h1 with
    | @lst pa xs ds' hL hd =>
      cases h2 with
      | @lst pb ys ds'' hL2 hd2 =>
        have l1 := hd.length
        have l2 := hd2.length
        refine ⟨pa, pb, xs, ys, rfl, rfl, ex_l (cut_le (M := Mk M0 ow)) (ex_l (cut_ex e2) hL), ex_l cut_le hL2, sz_of (by omega), fun p hp => ?_⟩
        exact q p _ _ (fresh_back (e1.trans e2) hp) ((e1.trans e2).trans (Ex.new hp)) upd_same (((hd.mono (cut_ex e2)).append hd2).mono (cut_or_new hp))⟩

/-! ### subscripts -/
theorem b_ixL (ha : B S ss ow a (.list ds)) (hb : B S ss ow b (.int n)) (hi : atI ds n = some d) (hs : PlainIx b) : B S ss ow (.Subscript a b pos) d := .mk fun M0 σ H g Q q =>
  ⟨tOp (rIxL S.K) (tE S a) (tE S b), fun X F => by have := pe_ix (X := X) (pos := pos) ix_list (pe_tE (e := a) F) (pe_tE (e := b) F) hs; rwa [F.K] at this, ha.run M0 σ H g _ fun v H1 e1 h1 => hb.run M0 σ H1 (g.ex e1) _ fun y H2 e2 h2 => by
    cases h1 with
    | @lst pa xs ds' hL hd =>
      cases h2
      have hd2 := hd.mono (cut_ex e2)
      have hlen := hd.length
      have hi' : ∃ j, ixN ds.length n = some j ∧ ds[j]? = some d := by
        unfold atI at hi
        exact Option.bind_eq_some_iff.mp hi
      obtain ⟨j, hj, hj2⟩ := hi'
      obtain ⟨v, hv, hvd⟩ := hd2.get hj2
      refine ⟨pa, xs, n, v, rfl, rfl, ex_l (cut_le (M := Mk M0 ow)) (ex_l (cut_ex e2) hL), ?_, q v H2 (e1.trans e2) hvd⟩
      unfold atI
      rw [hlen, hj]
      exact hv⟩
theorem b_ixT (ha : B S ss ow a (.tuple ds)) (hb : B S ss ow b (.int n)) (hi : atI ds n = some d) (hs : PlainIx b) : B S ss ow (.Subscript a b pos) d := .mk fun M0 σ H g Q q =>
  ⟨tOp (rIxT S.K) (tE S a) (tE S b), fun X F => by have := pe_ix (X := X) (pos := pos) ix_tup (pe_tE (e := a) F) (pe_tE (e := b) F) hs; rwa [F.K] at this, ha.run M0 σ H g _ fun v H1 e1 h1 => hb.run M0 σ H1 (g.ex e1) _ fun y H2 e2 h2 => by
    cases h1 with
    | @tup pa xs ds' hL hd =>
      cases h2
      have hd2 := hd.mono (cut_ex e2)
      have hlen := hd.length
      have hi' : ∃ j, ixN ds.length n = some j ∧ ds[j]? = some d := by
        unfold atI at hi
        exact Option.bind_eq_some_iff.mp hi
      obtain ⟨j, hj, hj2⟩ := hi'
      obtain ⟨v, hv, hvd⟩ := hd2.get hj2
      refine ⟨pa, xs, n, v, rfl, rfl, ex_t (cut_le (M := Mk M0 ow)) (ex_t (cut_ex e2) hL), ?_, q v H2 (e1.trans e2) hvd⟩
      unfold atI
      rw [hlen, hj]
      exact hv⟩
/-- an item of an owned list -/
theorem b_ixO {l : Addr} (h : ss[i]? = some (.adr l)) (ho : (l, ds) ∈ ow) (hi : S.N[i]? = some x) (hv : Vis S.sc x) (hb : B S ss ow b (.int n)) (hat : atI ds n = some d) (hs : PlainIx b) (hd : (x == ("__debug__" : Str)) = false := by decide) (hcd : (x == ("__classdict__" : Str)) = false := by decide) :
    B S ss ow (.Subscript (.Name x p) b pos) d := .mk fun M0 σ H g Q q =>
  ⟨tOp (rIxL S.K) (tVar i) (tE S b), fun X F => by have := pe_ix (X := X) (pos := pos) ix_list (pe_var (X := X) (pos := p) (by rw [F.N]; exact hi) (by rw [F.sc]; exact hv) hd hcd) (pe_tE (e := b) F) hs; rwa [F.K] at this,
    .ref l, g.adr h, hb.run M0 σ H g _ fun y H2 e2 h2 => by
      cases h2
      obtain ⟨vs, h1, hdd⟩ := (g.ex e2).own _ ho
      have hi' : ∃ j, ixN ds.length n = some j ∧ ds[j]? = some d := by
        unfold atI at hat
        exact Option.bind_eq_some_iff.mp hat
      obtain ⟨j, hj, hj2⟩ := hi'
      obtain ⟨v, hv, hvd⟩ := hdd.get hj2
      refine ⟨l, vs, n, v, rfl, rfl, .inl (.inl h1), ?_, q v H2 e2 hvd⟩
      unfold atI
      rw [hdd.length, hj]
      exact hv⟩
/-- the bounds of a slice -/
def BO (S : Stc) (ss : List SS) (ow : Ow) (o : Option Expr) (k : Option Int) : Prop := match o, k with
  | none, none => True
  | some e, some n => B S ss ow e (.int n)
  | _, _ => False
def tO (S : Stc) : Option Expr → TO
  | none => tNoPart
  | some e => tPart (tE S e)
theorem po_tO {X : Cx} (F : Fits S X) : ∀ o, PO X o (tO S o)
  | none => po_none
  | some e => po_some (pe_tE F)
theorem tO_run {o : Option Expr} {k : Option Int} (h : BO S ss ow o k) {M0 : Addr → Prop} {σ : L2.St} {H : Hp} (g : Hds S.K M0 ss ow σ H) (Q : Option Int → Hp → Prop) (q : ∀ H2, Ex H H2 → Q k H2) : tO S o σ H Q := by
  match o, k, h with
  | none, none, _ => exact q H (Ex.refl H)
  | some e, some n, h =>
    refine h.run M0 σ H g _ fun v H2 e2 hv => ?_
    cases hv
    exact ⟨n, rfl, q H2 e2⟩
def cutD (xs : List PyData) (lo hi : Option Int) : List PyData := (xs.drop (HT.sIx xs.length 0 lo)).take (HT.sIx xs.length xs.length hi - HT.sIx xs.length 0 lo)
theorem DpAll_cut {K : PySem.W.Frag} {H : Hp} {vs : List V} {ds : List PyData} (h : DpAll K H vs ds) (lo hi : Option Int) : DpAll K H (cutV vs lo hi) (cutD ds lo hi) := by
  unfold cutV cutD
  rw [h.length]
  exact (h.drop _).take _
variable {lo hi : Option Expr} {k1 k2 : Option Int} {p2 : Pos}
theorem bl_slice (ha : B S ss ow e (.list ds)) (hl : BO S ss ow lo k1) (hh : BO S ss ow hi k2) : BL S ss ow (.Subscript e (.Slice lo hi none p2) pos) (cutD ds k1 k2) := .mk fun M0 σ H g Q q =>
  ⟨tSl (rSlL S.K) (tE S e) (tO S lo) (tO S hi), fun X F => by have := pe_slice (X := X) (pos := pos) (p2 := p2) sl_list (pe_tE (e := e) F) (po_tO F lo) (po_tO F hi); rwa [F.K] at this, ha.run M0 σ H g _ fun v H1 e1 h1 =>
    tO_run hl (g.ex e1) _ fun H2 e2 => tO_run hh (g.ex (e1.trans e2)) _ fun H3 e3 => by
      cases h1 with
      | @lst pa xs ds' hL hd =>
        have ee := (e2.trans e3)
        refine ⟨pa, xs, rfl, ex_l (cut_le (M := Mk M0 ow)) (ex_l (cut_ex ee) hL), fun p hp => ?_⟩
        exact q p _ _ (fresh_back (e1.trans ee) hp) ((e1.trans ee).trans (Ex.new hp)) upd_same ((DpAll_cut (hd.mono (cut_ex ee)) k1 k2).mono (cut_or_new hp))⟩
theorem b_sliceT (ha : B S ss ow e (.tuple ds)) (hl : BO S ss ow lo k1) (hh : BO S ss ow hi k2) : B S ss ow (.Subscript e (.Slice lo hi none p2) pos) (.tuple (cutD ds k1 k2)) := .mk fun M0 σ H g Q q =>
  ⟨tSl (rSlA S.K) (tE S e) (tO S lo) (tO S hi), fun X F => by have := pe_slice (X := X) (pos := pos) (p2 := p2) sl_tupA (pe_tE (e := e) F) (po_tO F lo) (po_tO F hi); rwa [F.K] at this, ha.run M0 σ H g _ fun v H1 e1 h1 =>
    tO_run hl (g.ex e1) _ fun H2 e2 => tO_run hh (g.ex (e1.trans e2)) _ fun H3 e3 => by
      cases h1 with
      | @tup pa xs ds' hL hd =>
        have ee := (e2.trans e3)
        have hL2 := ex_t (cut_ex (M := Mk M0 ow) ee) hL
        have hd2 := DpAll_cut (hd.mono (cut_ex ee)) k1 k2
        refine ⟨pa, xs, rfl, ex_t (cut_le (M := Mk M0 ow)) hL2, fun hw => ?_, fun _ p hp => ?_⟩
        · have e0 : cutV xs k1 k2 = xs := by
            unfold cutV
            rw [hw.1, hw.2, List.drop_zero, Nat.sub_zero, List.take_length]
          rw [e0] at hd2
          exact q _ _ (e1.trans ee) (.tup hL2 hd2)
        · exact q _ _ ((e1.trans ee).trans (Ex.new hp)) (.tup (.inl (.inl (cut_new (g.ex (e1.trans ee)).mk_dom hp))) (hd2.mono (cut_ex (Ex.new hp))))⟩
theorem bl_rev {k : Nat} {p1 p3 : Pos} (ha : B S ss ow e (.list ds)) : BL S ss ow (.Subscript e (.Slice none none (some (.UnaryOp .USub (.Constant (.int 1) k p1) p2)) p3) pos) ds.reverse := .mk fun M0 σ H g Q q =>
  ⟨tRevL S.K (tE S e), fun X F => by have := pe_revL (X := X) (k := k) (p1 := p1) (p2 := p2) (p3 := p3) (pos := pos) (pe_tE (e := e) F); rwa [F.K] at this, ha.run M0 σ H g _ fun v H1 e1 h1 => by
    cases h1 with
    | @lst pa xs ds' hL hd =>
      exact ⟨pa, xs, rfl, ex_l cut_le hL, fun p hp => q p _ _ (fresh_back e1 hp) (e1.trans (Ex.new hp)) upd_same (hd.reverse.mono (cut_or_new hp))⟩⟩

/-! ### comparisons -/
theorem cmp_run {op : CmpOp} {r : R2} {r' : PyData → PyData → Bool → Prop} (ho : ∀ X, Fits S X → OpR X (compareOp op) r) (ha : B S ss ow a d1) (hb : B S ss ow b d2)
    (hr : ∀ (M0 : Addr → Prop) (x y : V) (H : Hp), Dp S.K (cut (Mk M0 ow) H) x d1 → Dp S.K (cut (Mk M0 ow) H) y d2 → ∀ Q : VK, Q (.bl t) H → r x y H Q) {M0 : Addr → Prop} {σ : L2.St} {H : Hp} (g : Hds S.K M0 ss ow σ H) (Q : VK) (q : ∀ H2, Ex H H2 → Q (.bl t) H2) :
    tOp r (tE S a) (tE S b) σ H Q := ha.run M0 σ H g _ fun v H1 e1 h1 => hb.run M0 σ H1 (g.ex e1) _ fun u H2 e2 h2 => hr M0 v u H2 (h1.mono (cut_ex e2)) h2 Q (q H2 (e1.trans e2))
/-- what a comparison says -/
inductive CmpD : CmpOp → PyData → PyData → Bool → Prop where
  | lt (n m : Int) : CmpD .Lt (.int n) (.int m) (decide (n < m))
  | le (n m : Int) : CmpD .LtE (.int n) (.int m) (decide (n ≤ m))
  | gt (n m : Int) : CmpD .Gt (.int n) (.int m) (decide (m < n))
  | ge (n m : Int) : CmpD .GtE (.int n) (.int m) (decide (m ≤ n))
  | eqI (n m : Int) : CmpD .Eq (.int n) (.int m) (decide (n = m))
  | neI (n m : Int) : CmpD .NotEq (.int n) (.int m) (!decide (n = m))
  | eqS (n m : Str) : CmpD .Eq (.str n) (.str m) (decide (n = m))
  | neS (n m : Str) : CmpD .NotEq (.str n) (.str m) (!decide (n = m))
  | eqD (d e : PyData) (hd : SeqAt.shaped d = true) (he : SeqAt.shaped e = true) : CmpD .Eq d e (PyData.eqv d e)
  | neD (d e : PyData) (hd : SeqAt.shaped d = true) (he : SeqAt.shaped e = true) : CmpD .NotEq d e (!PyData.eqv d e)
  | isN (d : PyData) (b : Bool) (h : b = match d with | .none => true | _ => false) : CmpD .Is d .none b
  | inD (d : PyData) (ds : List PyData) (hd : SeqAt.shaped d = true) (he : SeqAt.shaped (.list ds) = true) : CmpD .In d (.list ds) (ds.any fun z => PyData.eqv z d)
  | notInD (d : PyData) (ds : List PyData) (hd : SeqAt.shaped d = true) (he : SeqAt.shaped (.list ds) = true) : CmpD .NotIn d (.list ds) (!ds.any fun z => PyData.eqv z d)
theorem cmp_rule {op : CmpOp} (h : CmpD op d1 d2 t) : ∃ r : R2, (∀ X, Fits S X → OpR X (compareOp op) r) ∧
    ∀ (M0 : Addr → Prop) (x y : V) (H : Hp), Dp S.K (cut (Mk M0 ow) H) x d1 → Dp S.K (cut (Mk M0 ow) H) y d2 → ∀ Q : VK, Q (.bl t) H → r x y H Q := by
  have up : ∀ {M0 : Addr → Prop} {x : V} {d : PyData} {H : Hp}, Dp S.K (cut (Mk M0 ow) H) x d → Dp S.K H x d := fun h => h.mono cut_le
  have hu : ∀ X, Fits S X → X.A.units + 65 < cLine := fun X F => by have := F.room.un; omega
  cases h with
  | lt n m => exact ⟨_, fun X F => op_lt, fun M0 x y H hx hy Q q => by cases hx; cases hy; exact ⟨n, m, rfl, rfl, q⟩⟩
  | le n m => exact ⟨_, fun X F => op_le, fun M0 x y H hx hy Q q => by cases hx; cases hy; exact ⟨n, m, rfl, rfl, q⟩⟩
  | gt n m => exact ⟨_, fun X F => op_gt, fun M0 x y H hx hy Q q => by cases hx; cases hy; exact ⟨n, m, rfl, rfl, q⟩⟩
  | ge n m => exact ⟨_, fun X F => op_ge, fun M0 x y H hx hy Q q => by cases hx; cases hy; exact ⟨n, m, rfl, rfl, q⟩⟩
  | eqI n m => exact ⟨rEq, fun X F => op_eq, fun M0 x y H hx hy Q q => by
      cases hx; cases hy
      refine ⟨rfl, ?_⟩
      have e : decide (V.int n = V.int m) = decide (n = m) := decide_eq_decide.mpr ⟨fun z => by injection z, fun z => by rw [z]⟩
      rw [e]
      exact q⟩
  | neI n m => exact ⟨rNe, fun X F => op_ne, fun M0 x y H hx hy Q q => by
      cases hx; cases hy
      refine ⟨rfl, ?_⟩
      have e : decide (V.int n = V.int m) = decide (n = m) := decide_eq_decide.mpr ⟨fun z => by injection z, fun z => by rw [z]⟩
      rw [e]
      exact q⟩
  | eqS n m => exact ⟨rEq, fun X F => op_eq, fun M0 x y H hx hy Q q => by
      cases hx; cases hy
      refine ⟨rfl, ?_⟩
      have e : decide (V.str n = V.str m) = decide (n = m) := decide_eq_decide.mpr ⟨fun z => by injection z, fun z => by rw [z]⟩
      rw [e]
      exact q⟩
  | neS n m => exact ⟨rNe, fun X F => op_ne, fun M0 x y H hx hy Q q => by
      cases hx; cases hy
      refine ⟨rfl, ?_⟩
      have e : decide (V.str n = V.str m) = decide (n = m) := decide_eq_decide.mpr ⟨fun z => by injection z, fun z => by rw [z]⟩
      rw [e]
      exact q⟩
  | eqD d e hd he => exact ⟨rEqD S.K, fun X F => by have h := op_eqD (X := X) (by have := hu X F; omega); rwa [F.K] at h, fun M0 x y H hx hy Q q => ⟨_, _, up hx, up hy, hd, he, q⟩⟩
  | neD d e hd he => exact ⟨rNeD S.K, fun X F => by have h := op_neD (X := X) (by have := hu X F; omega); rwa [F.K] at h, fun M0 x y H hx hy Q q => ⟨_, _, up hx, up hy, hd, he, q⟩⟩
  | isN d b h => exact ⟨_, fun X F => op_isN, fun M0 x y H hx hy Q q => by
      cases hy
      refine ⟨rfl, ?_⟩
      subst h
      cases hx <;> exact q⟩
  | inD d ds hd he => exact ⟨rInD S.K, fun X F => by have h := op_inD (X := X) (by have := hu X F; omega); rwa [F.K] at h, fun M0 x y H hx hy Q q => ⟨_, _, up hx, up hy, hd, he, q⟩⟩
  | notInD d ds hd he => exact ⟨rNotInD S.K, fun X F => by have h := op_notInD (X := X) (by have := hu X F; omega); rwa [F.K] at h, fun M0 x y H hx hy Q q => ⟨_, _, up hx, up hy, hd, he, q⟩⟩
theorem bt_cmp {op : CmpOp} (h : CmpD op d1 d2 t) (ha : B S ss ow a d1) (hb : B S ss ow b d2) (hm : behindInMarks op b = false) : BT S ss ow (.Compare a [op] [b] pos) t := .mk fun M0 σ H g Q q => by
  obtain ⟨r, ho, hr⟩ := cmp_rule (S := S) (ow := ow) h
  exact ⟨tTest (tOp r (tE S a) (tE S b)), fun X F => pt_cmpR (ho X F) (pe_tE F) (pe_tE F) hm, cmp_run (r' := fun _ _ _ => True) ho ha hb hr g _ fun H2 e2 => ⟨t, rfl, q H2 e2⟩⟩
theorem b_cmp {op : CmpOp} (h : CmpD op d1 d2 t) (ha : B S ss ow a d1) (hb : B S ss ow b d2) (hm : behindInMarks op b = false) : B S ss ow (.Compare a [op] [b] pos) (.bool t) := .mk fun M0 σ H g Q q => by
  obtain ⟨r, ho, hr⟩ := cmp_rule (S := S) (ow := ow) h
  exact ⟨tOp r (tE S a) (tE S b), fun X F => pe_cmpR (ho X F) (pe_tE F) (pe_tE F) hm, cmp_run (r' := fun _ _ _ => True) ho ha hb hr g _ fun H2 e2 => q _ H2 e2 (.bl t)⟩
/-- an owned list compared with another -/
theorem bt_neO {l : Addr} (h : ss[i]? = some (.adr l)) (ho : (l, ds) ∈ ow) (hi : S.N[i]? = some x) (hv : Vis S.sc x) (hb : B S ss ow b d2) (h1 : SeqAt.shaped (.list ds) = true) (h2 : SeqAt.shaped d2 = true) (hm : behindInMarks .NotEq b = false)
    (hd : (x == ("__debug__" : Str)) = false := by decide) (hcd : (x == ("__classdict__" : Str)) = false := by decide) : BT S ss ow (.Compare (.Name x p) [.NotEq] [b] pos) (!PyData.eqv (.list ds) d2) := .mk fun M0 σ H g Q q =>
  ⟨tTest (tOp (rNeD S.K) (tVar i) (tE S b)), fun X F => by
      have h := pt_cmpR (X := X) (pos := pos) (op_neD (X := X) (by have := F.room.un; omega)) (pe_var (X := X) (pos := p) (by rw [F.N]; exact hi) (by rw [F.sc]; exact hv) hd hcd) (pe_tE (e := b) F) hm
      rwa [F.K] at h,
    .ref l, g.adr h, hb.run M0 σ H g _ fun y H2 e2 hy => by
      obtain ⟨vs, g1, g2⟩ := (g.ex e2).own _ ho
      exact ⟨_, _, .lst (.inl (.inl g1)) (g2.mono cut_le), hy.mono cut_le, h1, h2, _, rfl, q H2 e2⟩⟩

/-! ### tests -/
theorem bt_val (h : B S ss ow e (.bool t)) (he : ∀ (env : Env) whole, isTrue e env whole = (do let v ← whole; standAt e.pos; holding [v] (truthy v))) : BT S ss ow e t := .mk fun M0 σ H g Q q =>
  ⟨tB (tE S e), fun X F => pt_val (pe_tE F) (he _), h.run M0 σ H g _ fun v H2 e2 hv => by
    cases hv
    exact ⟨t, rfl, q H2 e2⟩⟩
theorem bt_not (h : BT S ss ow a t) : BT S ss ow (.UnaryOp .Not a pos) (!t) := .mk fun M0 σ H g Q q =>
  ⟨tNot (tT S a), fun X F => pt_not (pt_tT F), h.run M0 σ H g _ fun H2 e2 => q H2 e2⟩
theorem bt_w (h : BW S ss ow e t) : BT S ss ow e t := .mk fun M0 σ H g Q q => ⟨tW S e, fun X F => (pw_tW F).pt, h.run M0 σ H g Q q⟩
theorem bw_and1 (h : BT S ss ow a t) : BW S ss ow (.BoolOp .And [a] pos) t := .mk fun M0 σ H g Q q => ⟨tT S a, fun X F => pw_and1 (pt_tT F), h.run M0 σ H g Q q⟩
theorem bw_or1 (h : BT S ss ow a t) : BW S ss ow (.BoolOp .Or [a] pos) t := .mk fun M0 σ H g Q q => ⟨tT S a, fun X F => pw_or1 (pt_tT F), h.run M0 σ H g Q q⟩
theorem bw_and (h1 : BT S ss ow a t) (h2 : t = true → BW S ss ow (.BoolOp .And (b :: rest) pos) u) : BW S ss ow (.BoolOp .And (a :: b :: rest) pos) (t && u) := .mk fun M0 σ H g Q q =>
  ⟨tAnd (tT S a) (tW S (.BoolOp .And (b :: rest) pos)), fun X F => pw_and (pt_tT F) (pw_tW F), h1.run M0 σ H g _ fun H1 e1 => by
    cases t with
    | true =>
      show tW S _ σ H1 Q
      exact (h2 rfl).run M0 σ H1 (g.ex e1) Q fun H2 e2 => q H2 (e1.trans e2)
    | false =>
      show Q false H1
      exact q H1 e1⟩
theorem bw_or (h1 : BT S ss ow a t) (h2 : t = false → BW S ss ow (.BoolOp .Or (b :: rest) pos) u) : BW S ss ow (.BoolOp .Or (a :: b :: rest) pos) (t || u) := .mk fun M0 σ H g Q q =>
  ⟨tOr (tT S a) (tW S (.BoolOp .Or (b :: rest) pos)), fun X F => pw_or (pt_tT F) (pw_tW F), h1.run M0 σ H g _ fun H1 e1 => by
    cases t with
    | true =>
      show Q true H1
      exact q H1 e1
    | false =>
      show tW S _ σ H1 Q
      exact (h2 rfl).run M0 σ H1 (g.ex e1) Q fun H2 e2 => q H2 (e1.trans e2)⟩
/-- .. as values -/
theorem b_one {op : BoolOp} (h : B S ss ow a d) : B S ss ow (.BoolOp op [a] pos) d := .mk fun M0 σ H g Q q => ⟨tE S a, fun X F => pe_one (pe_tE F), h.run M0 σ H g Q q⟩
theorem b_and (h1 : B S ss ow a (.bool t)) (h2 : t = true → B S ss ow (.BoolOp .And (b :: rest) pos) (.bool u)) : B S ss ow (.BoolOp .And (a :: b :: rest) pos) (.bool (t && u)) := .mk fun M0 σ H g Q q =>
  ⟨tAndV (tE S a) (tE S (.BoolOp .And (b :: rest) pos)), fun X F => pe_and (pe_tE F) (pe_tE F), h1.run M0 σ H g _ fun v H1 e1 hv => by
    cases hv
    refine ⟨t, rfl, ?_⟩
    cases t with
    | true =>
      show tE S _ σ H1 Q
      exact (h2 rfl).run M0 σ H1 (g.ex e1) Q fun v H2 e2 hv => q v H2 (e1.trans e2) hv
    | false =>
      show Q (.bl false) H1
      exact q _ H1 e1 (.bl false)⟩
theorem b_or (h1 : B S ss ow a (.bool t)) (h2 : t = false → B S ss ow (.BoolOp .Or (b :: rest) pos) (.bool u)) : B S ss ow (.BoolOp .Or (a :: b :: rest) pos) (.bool (t || u)) := .mk fun M0 σ H g Q q =>
  ⟨tOrV (tE S a) (tE S (.BoolOp .Or (b :: rest) pos)), fun X F => pe_or (pe_tE F) (pe_tE F), h1.run M0 σ H g _ fun v H1 e1 hv => by
    cases hv
    refine ⟨t, rfl, ?_⟩
    cases t with
    | true =>
      show Q (.bl true) H1
      exact q _ H1 e1 (.bl true)
    | false =>
      show tE S _ σ H1 Q
      exact (h2 rfl).run M0 σ H1 (g.ex e1) Q fun v H2 e2 hv => q v H2 (e1.trans e2) hv⟩
theorem b_not (h : B S ss ow a (.bool t)) : B S ss ow (.UnaryOp .Not a pos) (.bool (!t)) := .mk fun M0 σ H g Q q =>
  ⟨tNotV (tE S a), fun X F => pe_not (pe_tE F), h.run M0 σ H g _ fun v H1 e1 hv => by
    cases hv
    exact ⟨t, rfl, q _ H1 e1 (.bl _)⟩⟩
theorem b_if (h : BT S ss ow c t) (h1 : t = true → B S ss ow a d) (h2 : t = false → B S ss ow b d) : B S ss ow (.IfExp c a b pos) d := .mk fun M0 σ H g Q q =>
  ⟨tIf (tT S c) (tE S a) (tE S b), fun X F => pe_ifExp (pt_tT F) (pe_tE F) (pe_tE F), h.run M0 σ H g _ fun H1 e1 => by
    cases t with
    | true =>
      show tE S a σ H1 Q
      exact (h1 rfl).run M0 σ H1 (g.ex e1) Q fun v H2 e2 hv => q v H2 (e1.trans e2) hv
    | false =>
      show tE S b σ H1 Q
      exact (h2 rfl).run M0 σ H1 (g.ex e1) Q fun v H2 e2 hv => q v H2 (e1.trans e2) hv⟩
end
end Mf
end

-- text W3
section
set_option Elab.async false
set_option linter.all false
set_option autoImplicit false
set_option maxRecDepth 100000
/-! W3: built-in functions, calls of defs, walks, comprehensions. -/
namespace Mf
open PySem PySem.Spec PyProof.Rows L2 Evl

abbrev IsG (S : Stc) (x : Str) : Prop := S.sc.names.lookup x = some .globalImplicit
section
variable {S : Stc} {ss : List SS} {ow : Ow} {e a b c : Expr} {es rest : List Expr} {d d1 d2 : PyData} {ds ds1 ds2 : List PyData} {pos p : Pos} {x : Str} {i : Nat} {n m : Int} {t u : Bool}

/-! ### built-in functions and types -/
theorem b_callB {id : String} {r : List V → Hp → VK → Prop} (hc : ∀ X, Fits S X → CallR X (.builtin id) r) (hg : IsG S x) (hm : S.mg x = none) (hv : bootBuiltins x = some (.builtin id)) (ha : BA S ss ow (e :: es) ds)
    (hr : ∀ (M0 : Addr → Prop) (σ : L2.St) (vs : List V) (H : Hp), Hds S.K M0 ss ow σ H → DpAll S.K (cut (Mk M0 ow) H) vs ds → ∀ Q : VK, (∀ v H2, Ex H H2 → Dp S.K (cut (Mk M0 ow) H2) v d → Q v H2) → r vs H Q)
    (he : ∀ env : Env, starEach (e :: es) env = (false, eval e env) :: starEach es env) (hpl : ∀ env : Env, (backTo pos (starEach es env)).any (·.1) = false) (hn : x ≠ "__name__" := by decide) (hdb : (x == ("__debug__" : Str)) = false := by decide) :
    B S ss ow (.Call (.Name x p) (e :: es) [] pos) d := .mk fun M0 σ H g Q q =>
  ⟨tCB r (tA S (e :: es)), fun X F => pe_callB (hc X F) (gl_of F hg) (by rw [F.mg]; exact hm) hv (pa_tA F) hn hdb (he _) (hpl _), ha.run M0 σ H g _ fun vs H1 e1 h1 => hr M0 σ vs H1 (g.ex e1) h1 Q fun v H2 e2 h2 => q v H2 (e1.trans e2) h2⟩
theorem b_callTy {T : String} {r : List V → Hp → VK → Prop} (hc : ∀ X, Fits S X → CallR X (.type T) r) (hg : IsG S x) (hm : S.mg x = none) (hv : bootBuiltins x = some (.type T)) (ha : BA S ss ow (e :: es) ds)
    (hr : ∀ (M0 : Addr → Prop) (σ : L2.St) (vs : List V) (H : Hp), Hds S.K M0 ss ow σ H → DpAll S.K (cut (Mk M0 ow) H) vs ds → ∀ Q : VK, (∀ v H2, Ex H H2 → Dp S.K (cut (Mk M0 ow) H2) v d → Q v H2) → r vs H Q)
    (he : ∀ env : Env, starEach (e :: es) env = (false, eval e env) :: starEach es env) (hpl : ∀ env : Env, (backTo pos (starEach es env)).any (·.1) = false) (hn : x ≠ "__name__" := by decide) (hdb : (x == ("__debug__" : Str)) = false := by decide) :
    B S ss ow (.Call (.Name x p) (e :: es) [] pos) d := .mk fun M0 σ H g Q q =>
  ⟨tCB r (tA S (e :: es)), fun X F => pe_callTy (hc X F) (gl_of F hg) (by rw [F.mg]; exact hm) hv (pa_tA F) hn hdb (he _) (hpl _), ha.run M0 σ H g _ fun vs H1 e1 h1 => hr M0 σ vs H1 (g.ex e1) h1 Q fun v H2 e2 h2 => q v H2 (e1.trans e2) h2⟩
theorem one_of {K : PySem.W.Frag} {H : Hp} {vs : List V} (h : DpAll K H vs [d]) : ∃ v, vs = [v] ∧ Dp K H v d := by
  cases h with
  | cons h t => cases t; exact ⟨_, rfl, h⟩
theorem two_of {K : PySem.W.Frag} {H : Hp} {vs : List V} (h : DpAll K H vs [d1, d2]) : ∃ v w, vs = [v, w] ∧ Dp K H v d1 ∧ Dp K H w d2 := by
  cases h with
  | cons h t =>
    obtain ⟨w, rfl, h2⟩ := one_of t
    exact ⟨_, w, rfl, h, h2⟩
section
variable (B0 : Blt S.mg) (he : ∀ env : Env, starEach [e] env = (false, eval e env) :: starEach [] env)
include B0 he
theorem b_lenL (hg : IsG S "len") (ha : B S ss ow e (.list ds)) : B S ss ow (.Call (.Name "len" p) [e] [] pos) (.int (ds.length : Int)) :=
  b_callB (r := fun xs H Q => ∃ p ys, xs = [.ref p] ∧ (SqL S.K H p ys ∨ SqT S.K H p ys) ∧ Q (.int ys.length) H) (fun X F => by have h := call_len_seq (X := X); rwa [F.K] at h) hg B0.len PySem.boot_len (ba_cons ha ba_nil he) (fun M0 σ vs H g h Q q => by
    obtain ⟨v, rfl, hv⟩ := one_of h
    cases hv with
    | @lst pa xs ds' hL hd => exact ⟨pa, xs, rfl, .inl (ex_l cut_le hL), q _ H (Ex.refl H) (by rw [hd.length]; exact .int _)⟩) he fun _ => rfl
theorem b_lenT (hg : IsG S "len") (ha : B S ss ow e (.tuple ds)) : B S ss ow (.Call (.Name "len" p) [e] [] pos) (.int (ds.length : Int)) :=
  b_callB (r := fun xs H Q => ∃ p ys, xs = [.ref p] ∧ (SqL S.K H p ys ∨ SqT S.K H p ys) ∧ Q (.int ys.length) H) (fun X F => by have h := call_len_seq (X := X); rwa [F.K] at h) hg B0.len PySem.boot_len (ba_cons ha ba_nil he) (fun M0 σ vs H g h Q q => by
    obtain ⟨v, rfl, hv⟩ := one_of h
    cases hv with
    | @tup pa xs ds' hL hd => exact ⟨pa, xs, rfl, .inr (ex_t cut_le hL), q _ H (Ex.refl H) (by rw [hd.length]; exact .int _)⟩) he fun _ => rfl
theorem b_abs (hg : IsG S "abs") (ha : B S ss ow e (.int n)) : B S ss ow (.Call (.Name "abs" p) [e] [] pos) (.int (n.natAbs : Int)) :=
  b_callB (fun X F => call_abs) hg B0.abs boot_abs (ba_cons ha ba_nil he) (fun M0 σ vs H g h Q q => by
    obtain ⟨v, rfl, hv⟩ := one_of h
    cases hv
    have e0 : (if n < 0 then -n else n) = (n.natAbs : Int) := by split <;> omega
    refine ⟨n, rfl, ?_⟩
    rw [e0]
    exact q _ H (Ex.refl H) (.int _)) he fun _ => rfl
theorem b_intI (hg : IsG S "int") (ha : B S ss ow e (.int n)) : B S ss ow (.Call (.Name "int" p) [e] [] pos) (.int n) :=
  b_callTy (fun X F => call_int1) hg B0.int PyProof.Rows.boot_int (ba_cons ha ba_nil he) (fun M0 σ vs H g h Q q => by
    obtain ⟨v, rfl, hv⟩ := one_of h
    cases hv
    exact .inl ⟨n, rfl, q _ H (Ex.refl H) (.int _)⟩) he fun _ => rfl
theorem b_intB (hg : IsG S "int") (ha : B S ss ow e (.bool t)) : B S ss ow (.Call (.Name "int" p) [e] [] pos) (.int (if t then 1 else 0)) :=
  b_callTy (fun X F => call_int1) hg B0.int PyProof.Rows.boot_int (ba_cons ha ba_nil he) (fun M0 σ vs H g h Q q => by
    obtain ⟨v, rfl, hv⟩ := one_of h
    cases hv
    exact .inr ⟨t, rfl, q _ H (Ex.refl H) (.int _)⟩) he fun _ => rfl
theorem b_tupleL (hg : IsG S "tuple") (ha : B S ss ow e (.list ds)) : B S ss ow (.Call (.Name "tuple" p) [e] [] pos) (.tuple ds) :=
  b_callTy (r := fun xs H Q => ∃ p ys, xs = [.ref p] ∧ ((SqL S.K H p ys ∧ ∀ l, H l = none → Q (.ref l) (upd H l (.tup ys))) ∨ (SqT S.K H p ys ∧ Q (.ref p) H))) (fun X F => by have h := call_tuple_of (X := X); rwa [F.K] at h) hg B0.tuple PyProof.Rows.boot_tuple (ba_cons ha ba_nil he) (fun M0 σ vs H g h Q q => by
    obtain ⟨v, rfl, hv⟩ := one_of h
    cases hv with
    | @lst pa xs ds' hL hd => exact ⟨pa, xs, rfl, .inl ⟨ex_l cut_le hL, fun l hl => q _ _ (Ex.new hl) (.tup (.inl (.inl (cut_new g.mk_dom hl))) (hd.mono (cut_ex (Ex.new hl))))⟩⟩) he fun _ => rfl
theorem bl_list (hg : IsG S "list") (ha : B S ss ow e (.list ds)) : BL S ss ow (.Call (.Name "list" p) [e] [] pos) ds := .mk fun M0 σ H g Q q =>
  ⟨tCB (fun xs H Q => ∃ p ys, xs = [.ref p] ∧ (SqL S.K H p ys ∨ SqT S.K H p ys) ∧ ∀ l, H l = none → Q (.ref l) (upd H l (.lst ys))) (tA S [e]), fun X F => pe_callTy (by have h := call_list_of (X := X); rwa [F.K] at h) (gl_of F hg) (by rw [F.mg]; exact B0.list) PyProof.Rows.boot_list (pa_tA F) (he := he _),
    (ba_cons ha ba_nil he).run M0 σ H g _ fun vs H1 e1 h1 => by
      obtain ⟨v, rfl, hv⟩ := one_of h1
      cases hv with
      | @lst pa xs ds' hL hd => exact ⟨pa, xs, rfl, .inl (ex_l cut_le hL), fun l hl => q l _ _ (fresh_back e1 hl) (e1.trans (Ex.new hl)) upd_same (hd.mono (cut_or_new hl))⟩⟩
theorem b_all {bs : List Bool} (hg : IsG S "all") (ha : B S ss ow e (.list (bs.map .bool))) : B S ss ow (.Call (.Name "all" p) [e] [] pos) (.bool (bs.all id)) :=
  b_callB (r := rAll S.K) (fun X F => by have h := cr_all (X := X) F.calm; rwa [F.K] at h) hg B0.all boot_all (ba_cons ha ba_nil he) (fun M0 σ vs H g h Q q => by
    obtain ⟨v, rfl, hv⟩ := one_of h
    cases hv with
    | @lst pa xs ds' hL hd =>
      obtain rfl := hd.bools
      exact ⟨pa, bs, rfl, ex_l cut_le hL, q _ H (Ex.refl H) (.bl _)⟩) he fun _ => rfl
theorem b_sum {ns : List Int} (hg : IsG S "sum") (ha : B S ss ow e (.list (ns.map .int))) : B S ss ow (.Call (.Name "sum" p) [e] [] pos) (.int ns.sum) :=
  b_callB (r := rSum S.K) (fun X F => by have h := cr_sum (X := X) F.calm; rwa [F.K] at h) hg B0.sum PyProof.Rows.boot_sum (ba_cons ha ba_nil he) (fun M0 σ vs H g h Q q => by
    obtain ⟨v, rfl, hv⟩ := one_of h
    cases hv with
    | @lst pa xs ds' hL hd =>
      obtain rfl := hd.ints
      exact ⟨pa, ns, rfl, ex_l cut_le hL, q _ H (Ex.refl H) (.int _)⟩) he fun _ => rfl
theorem b_repr (hg : IsG S "repr") (ha : B S ss ow e (.int n)) (hb : n.natAbs.log2 < 1920) : B S ss ow (.Call (.Name "repr" p) [e] [] pos) (.str (toString n)) :=
  b_callB (fun X F => SkE.call_repr_int) hg B0.repr boot_repr (ba_cons ha ba_nil he) (fun M0 σ vs H g h Q q => by
    obtain ⟨v, rfl, hv⟩ := one_of h
    cases hv
    exact ⟨n, rfl, hb, q _ H (Ex.refl H) (.str _)⟩) he fun _ => rfl
end
theorem b_max2 (B0 : Blt S.mg) (he : ∀ env : Env, starEach [e, a] env = (false, eval e env) :: starEach [a] env) (he2 : ∀ env : Env, starEach [a] env = (false, eval a env) :: starEach [] env) (hg : IsG S "max")
    (ha : B S ss ow e (.int n)) (hb : B S ss ow a (.int m)) : B S ss ow (.Call (.Name "max" p) [e, a] [] pos) (.int (max n m)) :=
  b_callB (fun X F => call_max2 F.calm) hg B0.max boot_max (ba_cons ha (ba_cons hb ba_nil he2) he) (fun M0 σ vs H g h Q q => by
    obtain ⟨v, w, rfl, hv, hw⟩ := two_of h
    cases hv
    cases hw
    have e0 : (if m > n then m else n) = max n m := by split <;> omega
    refine ⟨n, m, rfl, ?_⟩
    rw [e0]
    exact q _ H (Ex.refl H) (.int _)) he fun env => by rw [he2]; rfl
/-! isinstance -/
def tyD : PyData → String
  | .none => "NoneType" | .bool _ => "bool" | .int _ => "int" | .str _ => "str" | .list _ => "list" | .tuple _ => "tuple" | .dict _ => "dict"
theorem tyX_of {K : PySem.W.Frag} {H : Hp} {v : V} (h : Dp K H v d) : TyX K H v (.type (tyD d)) := by
  cases h with
  | non => exact .base .non
  | bl b => exact .base (.bl b)
  | int i => exact .base (.int i)
  | str z => exact .base (.str z)
  | lst h _ =>
    rcases h with (h | ⟨o, h⟩) | ⟨o, its, n, hk, hc, _⟩
    · exact .base (.lst h)
    · exact .base (.frz h)
    · exact .kList hk hc
  | tup h _ =>
    rcases h with (h | ⟨o, h⟩) | ⟨o, its, n, hk, hc, _⟩
    · exact .base (.tup h)
    · exact .fTuple h
    · exact .kTuple hk hc
theorem b_isi {T : String} (B0 : Blt S.mg) (he : ∀ env : Env, starEach [e, .Name x p] env = (false, eval e env) :: starEach [.Name x p] env) (hg : IsG S "isinstance") (hx : IsG S x) (hm : S.mg x = none) (hv : bootBuiltins x = some (.type T))
    (ha : B S ss ow e d) (hk : kitB (tyD d) T = some t) (hn : x ≠ "__name__" := by decide) (hdb : (x == ("__debug__" : Str)) = false := by decide) {p1 : Pos} : B S ss ow (.Call (.Name "isinstance" p1) [e, .Name x p] [] pos) (.bool t) := .mk fun M0 σ H g Q q =>
  ⟨tCB (rIsi S.K) (tCons (tE S e) (tCons (tC (.ty T)) tNil)), fun X F => pe_callB (by have h := call_isi (X := X); rwa [F.K] at h) (gl_of F (x := "isinstance") hg) (by rw [F.mg]; exact B0.isinstance) PyProof.Rows.boot_isinstance (pa_cons (pe_tE F) (pa_cons (pe_bltn (gl_of F hx) (by rw [F.mg]; exact hm) hv rfl hn hdb) pa_nil) (he _)) (he := he _),
    ha.run M0 σ H g _ fun v H1 e1 h1 => ⟨v, .ty T, .type (tyD d), .type T, t, rfl, .ty T, tyX_of (h1.mono cut_le), kit_ty hk, q _ H1 e1 (.bl t)⟩⟩
theorem b_isi2 {T1 T2 : String} {x1 x2 : Str} {px1 px2 pt p1 : Pos} {kt : Nat} {t1 : Bool} (B0 : Blt S.mg) (he : ∀ env : Env, starEach [e, .Tuple [.Name x1 px1, .Name x2 px2] kt pt] env = (false, eval e env) :: starEach [.Tuple [.Name x1 px1, .Name x2 px2] kt pt] env)
    (hg : IsG S "isinstance") (hx1 : IsG S x1) (hm1 : S.mg x1 = none) (hv1 : bootBuiltins x1 = some (.type T1)) (hx2 : IsG S x2) (hm2 : S.mg x2 = none) (hv2 : bootBuiltins x2 = some (.type T2))
    (ha : B S ss ow e d) (hk : kitB (tyD d) T1 = some t1) (hk2 : kitB (tyD d) T2 = some u) (hn1 : x1 ≠ "__name__" := by decide) (hdb1 : (x1 == ("__debug__" : Str)) = false := by decide) (hn2 : x2 ≠ "__name__" := by decide) (hdb2 : (x2 == ("__debug__" : Str)) = false := by decide) :
    B S ss ow (.Call (.Name "isinstance" p1) [e, .Tuple [.Name x1 px1, .Name x2 px2] kt pt] [] pos) (.bool (t1 || u)) := .mk fun M0 σ H g Q q =>
  ⟨tCB (rIsiT S.K) (tCons (tE S e) (tCons (tTup (tCons (tC (.ty T1)) (tCons (tC (.ty T2)) tNil))) tNil)), fun X F => pe_callB (by have h := call_isiT (X := X); rwa [F.K] at h) (gl_of F (x := "isinstance") hg) (by rw [F.mg]; exact B0.isinstance) PyProof.Rows.boot_isinstance
      (pa_cons (pe_tE F) (pa_cons (pe_tup (pa_cons (pe_bltn (gl_of F hx1) (by rw [F.mg]; exact hm1) hv1 rfl hn1 hdb1) (pa_cons (pe_bltn (gl_of F hx2) (by rw [F.mg]; exact hm2) hv2 rfl hn2 hdb2) pa_nil))) pa_nil) (he _)) (he := he _),
    ha.run M0 σ H g _ fun v H1 e1 h1 => ⟨by show 2 ≤ sizeLine; decide, fun tp hp => ⟨v, tp, [.ty T1, .ty T2], .type (tyD d), [.type T1, .type T2], t1 || u, rfl, upd_same, .cons (.ty T1) (.cons (.ty T2) .nil), tyX_of ((h1.mono cut_le).mono (Ex.new hp)), by
      refine kitAny_cons (kit_ty hk) (fun e0 => ?_) (fun e0 => by rw [e0]; rfl)
      rw [e0]
      refine kitAny_cons (kit_ty hk2) (fun e1 => ?_) (fun e1 => by rw [e1]; rfl)
      rw [e1]
      rfl, q _ _ (e1.trans (Ex.new hp)) (.bl _)⟩⟩⟩

/-! ### defs of the text -/
/-- a def's promise: what it hands back for which data (nothing that stood is changed) -/
def spR (K : PySem.W.Frag) (n : Nat) (Rl : List PyData → PyData → Prop) : Sp := fun vs H Q _ => vs.length = n ∧ ∃ (M : Addr → Prop) (ds : List PyData) (d : PyData), (∀ a, M a → H a ≠ none) ∧ DpAll K (cut M H) vs ds ∧ Rl ds d ∧ ∀ v H2, Ex H H2 → Dp K (cut M H2) v d → Q v H2
def Def (P : Program) (w : World) (K : PySem.W.Frag) (mg : Str → Option Value) (base : Heap) (x : Str) (ps : List Str) (k : Nat) (sp : Sp) : Prop :=
  ∃ (f : Addr) (fd : FuncData), FnOk P w K mg base CX0 k f fd ps sp ∧ mg x = some (.ref f) ∧ PySem.W.keepIn K (.ref f) = true ∧ Binds K fd ps []
theorem Def.mono {P : Program} {w : World} {K : PySem.W.Frag} {mg : Str → Option Value} {base : Heap} {ps : List Str} {j k : Nat} {sp : Sp} (h : Def P w K mg base x ps j sp) (hk : j ≤ k) : Def P w K mg base x ps k sp := by
  obtain ⟨f, fd, h1, h2, h3, h4⟩ := h
  exact ⟨f, fd, h1.mono hk, h2, h3, h4⟩
theorem b_call {ps : List Str} {k nn : Nat} {Rl : List PyData → PyData → Prop} (D : Def S.P S.w S.K S.mg S.base x ps k (spR S.K nn Rl)) (hk : k ≤ S.k) (hg : IsG S x) (ha : BA S ss ow (e :: es) ds) (hr : Rl ds d) (hn : ds.length = nn)
    (he : ∀ env : Env, starEach (e :: es) env = (false, eval e env) :: starEach es env) (hpl : ∀ env : Env, (backTo pos (starEach es env)).any (·.1) = false) (hdb : (x == ("__debug__" : Str)) = false := by decide) : B S ss ow (.Call (.Name x p) (e :: es) [] pos) d := .mk fun M0 σ H g Q q => by
  obtain ⟨f, fd, h1, h2, h3, h4⟩ := D
  refine ⟨tCall (spR S.K nn Rl) [] E0 (tA S (e :: es)), fun X F => ?_, ha.run M0 σ H g _ fun vs H1 e1 hv => ?_⟩
  · have h1' : FnOk X.prog X.w X.K X.mg X.base CX0 k f fd ps (spR S.K nn Rl) := by rw [F.prog, F.w, F.K, F.mg, F.base]; exact h1
    exact pe_call h1' (F.room.mono hk) (gl_of F hg) (by rw [F.mg]; exact h2) (by rw [F.K]; exact h3) (by rw [F.K]; exact h4) .nil pass0 (pa_tA F) hdb (he _) (hpl _)
  · show spR S.K nn Rl (vs ++ []) H1 Q E0
    rw [List.append_nil]
    exact ⟨by rw [hv.length]; exact hn, Mk M0 ow, ds, d, (g.ex e1).mk_dom, hv, hr, fun v H2 e2 h => q v H2 (e1.trans e2) h⟩

/-! ### walks -/
def WalkD (K : PySem.W.Frag) (H0 : Hp) (J : It) (ds : List PyData) : Prop := ∀ (i : Nat) (H2 : Hp), Ex H0 H2 →
  (∀ d, ds[i]? = some d → J.go i H2 ∧ ∀ x H3, J.yld i H2 x H3 → Ex H2 H3 ∧ ∀ M' : Addr → Prop, (∀ a, M' a → H2 a ≠ none) → (∀ a o, H0 a = some o → ¬ M' a) → Dp K (cut M' H3) x d) ∧ (ds[i]? = none → J.stop i H2)
def tI (S : Stc) (tg iter : Expr) : TI := fun σ H R => ∃ t : TI, (∀ X, Fits S X → PI X tg iter t) ∧ t σ H R
theorem pi_tI {X : Cx} {tg iter : Expr} (F : Fits S X) : PI X tg iter (tI S tg iter) := ⟨fun pins s σ H R I ⟨t, h, q⟩ => (h X F).run pins s σ H R I q⟩
structure BI (S : Stc) (ss : List SS) (ow : Ow) (tg iter : Expr) (ds : List PyData) : Prop where
  run : ∀ (M0 : Addr → Prop) (σ : L2.St) (H : Hp), Hds S.K M0 ss ow σ H → ∀ R : It → Hp → Prop, (∀ J H1, Ex H H1 → WalkD S.K (cut (Mk M0 ow) H1) J ds → R J H1) → tI S tg iter σ H R
theorem ex_apart {H0 H2 : Hp} {M' : Addr → Prop} (e : Ex H0 H2) (h : ∀ a o, H0 a = some o → ¬ M' a) : Ex H0 (cut M' H2) := fun a o q => cut_of (h a o q) (e a o q)
theorem walk_list {K : PySem.W.Frag} {H0 : Hp} {l : Addr} {xs : List V} (hL : SqL K H0 l xs) (hd : DpAll K H0 xs ds) : WalkD K H0 (Itl K l) ds := fun i H2 e2 => ⟨fun d hi => by
  obtain ⟨v, hv, hvd⟩ := hd.get hi
  refine ⟨⟨xs, v, ex_l e2 hL, hv⟩, fun x H3 hy => ?_⟩
  obtain ⟨rfl, hx⟩ := hy
  have ex : xs[i]? = some x := hx xs (ex_l e2 hL)
  rw [hv] at ex
  cases ex
  exact ⟨Ex.refl _, fun M' _ h2 => hvd.mono (ex_apart e2 h2)⟩, fun hi => ⟨xs, ex_l e2 hL, by rw [hd.length]; exact List.getElem?_eq_none_iff.mp hi⟩⟩
theorem walk_tup {K : PySem.W.Frag} {H0 : Hp} {l : Addr} {xs : List V} (hL : SqT K H0 l xs) (hd : DpAll K H0 xs ds) : WalkD K H0 (Itt K l) ds := fun i H2 e2 => ⟨fun d hi => by
  obtain ⟨v, hv, hvd⟩ := hd.get hi
  refine ⟨⟨xs, v, ex_t e2 hL, hv⟩, fun x H3 hy => ?_⟩
  obtain ⟨rfl, hx⟩ := hy
  have ex : xs[i]? = some x := hx xs (ex_t e2 hL)
  rw [hv] at ex
  cases ex
  exact ⟨Ex.refl _, fun M' _ h2 => hvd.mono (ex_apart e2 h2)⟩, fun hi => ⟨xs, ex_t e2 hL, by rw [hd.length]; exact List.getElem?_eq_none_iff.mp hi⟩⟩
theorem new_pair {K : PySem.W.Frag} {H0 H2 : Hp} {M' : Addr → Prop} {T : Addr} {v w : V} (e : Ex H0 H2) (hT : H2 T = none) (h1 : ∀ a, M' a → H2 a ≠ none) (h2 : ∀ a o, H0 a = some o → ¬ M' a) (hv : Dp K H0 v d1) (hw : Dp K H0 w d2) :
    Dp K (cut M' (upd H2 T (.tup [v, w]))) (.ref T) (.tuple [d1, d2]) := by
  have e3 : Ex H0 (cut M' (upd H2 T (.tup [v, w]))) := ex_apart (e.trans (Ex.new hT)) h2
  exact .tup (.inl (.inl (cut_new h1 hT))) (.cons (hv.mono e3) (.cons (hw.mono e3) .nil))
theorem walk_zipL {K : PySem.W.Frag} {H0 : Hp} {l l2 : Addr} {xs ys : List V} (hL : SqL K H0 l xs) (hd : DpAll K H0 xs ds1) (hL2 : SqL K H0 l2 ys) (hd2 : DpAll K H0 ys ds2) : WalkD K H0 (Itz K l l2) (List.zipWith (fun a b => .tuple [a, b]) ds1 ds2) := fun i H2 e2 => ⟨fun d hi => by
  obtain ⟨a, b, ha, hb, rfl⟩ := List.getElem?_zipWith_eq_some.mp hi
  obtain ⟨v, hv, hvd⟩ := hd.get ha
  obtain ⟨w, hw, hwd⟩ := hd2.get hb
  refine ⟨⟨xs, ys, v, w, ex_l e2 hL, ex_l e2 hL2, hv, hw⟩, fun x H3 hy => ?_⟩
  obtain ⟨T, x1, x2, rfl, hT, rfl, f1, f2⟩ := hy
  have q1 := f1 xs (ex_l e2 hL)
  have q2 := f2 ys (ex_l e2 hL2)
  rw [hv] at q1
  rw [hw] at q2
  cases q1
  cases q2
  exact ⟨Ex.new hT, fun M' h1 h2 => new_pair e2 hT h1 h2 hvd hwd⟩, fun hi => ⟨xs, ys, ex_l e2 hL, ex_l e2 hL2, by
    have h := List.getElem?_eq_none_iff.mp hi
    rw [List.length_zipWith] at h
    rw [hd.length, hd2.length]
    omega⟩⟩
theorem walk_zipT {K : PySem.W.Frag} {H0 : Hp} {l l2 : Addr} {xs ys : List V} (hL : SqT K H0 l xs) (hd : DpAll K H0 xs ds1) (hL2 : SqT K H0 l2 ys) (hd2 : DpAll K H0 ys ds2) : WalkD K H0 (RZ.ItzT K l l2) (List.zipWith (fun a b => .tuple [a, b]) ds1 ds2) := fun i H2 e2 => ⟨fun d hi => by
  obtain ⟨a, b, ha, hb, rfl⟩ := List.getElem?_zipWith_eq_some.mp hi
  obtain ⟨v, hv, hvd⟩ := hd.get ha
  obtain ⟨w, hw, hwd⟩ := hd2.get hb
  refine ⟨⟨xs, ys, v, w, ex_t e2 hL, ex_t e2 hL2, hv, hw⟩, fun x H3 hy => ?_⟩
  obtain ⟨T, x1, x2, rfl, hT, rfl, f1, f2⟩ := hy
  have q1 := f1 xs (ex_t e2 hL)
  have q2 := f2 ys (ex_t e2 hL2)
  rw [hv] at q1
  rw [hw] at q2
  cases q1
  cases q2
  exact ⟨Ex.new hT, fun M' h1 h2 => new_pair e2 hT h1 h2 hvd hwd⟩, fun hi => ⟨xs, ys, ex_t e2 hL, ex_t e2 hL2, by
    have h := List.getElem?_eq_none_iff.mp hi
    rw [List.length_zipWith] at h
    rw [hd.length, hd2.length]
    omega⟩⟩
variable {tg iter : Expr}
theorem bi_list (ha : B S ss ow e (.list ds)) : BI S ss ow tg e ds := .mk fun M0 σ H g R q =>
  ⟨iList S.K (tE S e), fun X F => by have h := pi_list (X := X) (tg := tg) (pe_tE (e := e) F); rwa [F.K] at h, ha.run M0 σ H g _ fun v H1 e1 h1 => by
    cases h1 with
    | @lst pa xs ds' hL hd => exact ⟨pa, rfl, ⟨xs, ex_l cut_le hL⟩, q _ H1 e1 (walk_list hL hd)⟩⟩
theorem bi_tup (ha : B S ss ow e (.tuple ds)) : BI S ss ow tg e ds := .mk fun M0 σ H g R q =>
  ⟨iTup S.K (tE S e), fun X F => by have h := pi_tup (X := X) (tg := tg) (pe_tE (e := e) F); rwa [F.K] at h, ha.run M0 σ H g _ fun v H1 e1 h1 => by
    cases h1 with
    | @tup pa xs ds' hL hd => exact ⟨pa, rfl, ⟨xs, ex_t cut_le hL⟩, q _ H1 e1 (walk_tup hL hd)⟩⟩
theorem bi_range (B0 : Blt S.mg) (hg : IsG S "range") (he : ∀ env : Env, starEach [e] env = [(false, eval e env)]) (ha : B S ss ow e (.int n)) (hn : n ≤ 100000) (hn2 : -100000 ≤ n) :
    BI S ss ow tg (.Call (.Name "range" p) [e] [] pos) ((List.range n.toNat).map fun k => .int (k : Nat)) := .mk fun M0 σ H g R q =>
  ⟨iRng1 (tA S [e]), fun X F => pi_range1 (gl_of F hg) (by rw [F.mg]; exact B0.range) (pa_tA F) (he _), (ba_cons ha ba_nil fun env => he env).run M0 σ H g _ fun vs H1 e1 h1 => by
    obtain ⟨v, rfl, hv⟩ := one_of h1
    cases hv
    refine ⟨n, rfl, by omega, by omega, q _ H1 e1 fun i H2 e2 => ⟨fun d hi => ?_, fun hi => ?_⟩⟩
    · rw [List.getElem?_map, Option.map_eq_some_iff] at hi
      obtain ⟨k, hk, rfl⟩ := hi
      obtain ⟨hlt, hk⟩ := List.getElem?_eq_some_iff.mp hk
      rw [List.getElem_range] at hk
      subst hk
      rw [List.length_range] at hlt
      refine ⟨hlt, fun x H3 hy => ?_⟩
      obtain ⟨rfl, rfl⟩ := hy
      refine ⟨Ex.refl _, fun M' _ _ => ?_⟩
      rw [Int.zero_add]
      exact .int _
    · have h := List.getElem?_eq_none_iff.mp hi
      rw [List.length_map, List.length_range] at h
      exact h⟩
variable {elts : List Expr} {kk : Nat} {tpos : Pos}
theorem bi_zipL (B0 : Blt S.mg) (hg : IsG S "zip") (he : ∀ env : Env, starEach [e, a] env = (false, eval e env) :: starEach [a] env) (he2 : ∀ env : Env, starEach [a] env = (false, eval a env) :: starEach [] env)
    (ha : B S ss ow e (.list ds1)) (hb : B S ss ow a (.list ds2)) : BI S ss ow (.Tuple elts kk tpos) (.Call (.Name "zip" p) [e, a] [] pos) (List.zipWith (fun a b => .tuple [a, b]) ds1 ds2) := .mk fun M0 σ H g R q =>
  ⟨iZip S.K (tA S [e, a]), fun X F => by have h := pi_zip (X := X) (p := p) (pos := pos) (tpos := tpos) (elts := elts) (kk := kk) (gl_of F hg) (by rw [F.mg]; exact B0.zip) (pa_tA (es := [e, a]) F) (he _) (by rw [he2]; rfl); rwa [F.K] at h,
    (ba_cons ha (ba_cons hb ba_nil he2) he).run M0 σ H g _ fun vs H1 e1 h1 => by
      obtain ⟨v, w, rfl, hv, hw⟩ := two_of h1
      cases hv with
      | @lst pa xs ds' hL hd =>
        cases hw with
        | @lst pb ys ds'' hL2 hd2 => exact ⟨pa, pb, xs, ys, rfl, ex_l cut_le hL, ex_l cut_le hL2, q _ H1 e1 (walk_zipL hL hd hL2 hd2)⟩⟩
theorem bi_zipT (B0 : Blt S.mg) (hg : IsG S "zip") (he : ∀ env : Env, starEach [e, a] env = (false, eval e env) :: starEach [a] env) (he2 : ∀ env : Env, starEach [a] env = (false, eval a env) :: starEach [] env)
    (ha : B S ss ow e (.tuple ds1)) (hb : B S ss ow a (.tuple ds2)) : BI S ss ow (.Tuple elts kk tpos) (.Call (.Name "zip" p) [e, a] [] pos) (List.zipWith (fun a b => .tuple [a, b]) ds1 ds2) := .mk fun M0 σ H g R q =>
  ⟨RZ.iZipA S.K (tA S [e, a]), fun X F => by have h := RZ.pi_zipA (X := X) (p := p) (pos := pos) (tpos := tpos) (elts := elts) (kk := kk) (gl_of F hg) (by rw [F.mg]; exact B0.zip) (pa_tA (es := [e, a]) F) (he _) (by rw [he2]; rfl); rwa [F.K] at h,
    (ba_cons ha (ba_cons hb ba_nil he2) he).run M0 σ H g _ fun vs H1 e1 h1 => by
      obtain ⟨v, w, rfl, hv, hw⟩ := two_of h1
      cases hv with
      | @tup pa xs ds' hL hd =>
        cases hw with
        | @tup pb ys ds'' hL2 hd2 => exact ⟨pa, pb, xs, ys, rfl, .inr ⟨ex_t cut_le hL, ex_t cut_le hL2, q _ H1 e1 (walk_zipT hL hd hL2 hd2)⟩⟩⟩
end
end Mf
end

-- text W4
section
set_option Elab.async false
set_option linter.all false
set_option autoImplicit false
set_option maxRecDepth 100000
/-! W4: enumerate of a tuple. -/
namespace Mf
open PySem PySem.Spec PyProof.Rows L2 Evl
open AutoSeq1 (wpAny_loadPart')
theorem meets_enumerate_newT (l : Addr) (items : Array Value) (n : Nat) (dct : Option Addr) (sl : Array (Option Value)) :
    Meets (Builtin.«enumerate.__new__» ⟨[.type "enumerate", .ref l], []⟩) (fun _ R s => s.heap.get? l = some { cls := .type "tuple", dict := dct, data := .seq items n, slots := sl } ∧
      R (.ok (.ret (.ref (s.heap.push { cls := .type "tuple_iterator", data := .fields #[.ref l, .int 0 0] }).objs.size)))
        { s with heap := (s.heap.push { cls := .type "tuple_iterator", data := .fields #[.ref l, .int 0 0] }).push { cls := .type "enumerate", data := .fields #[.none, .bool false, .ref s.heap.objs.size, rawInt 0, .none, .none] } }) :=
  .of_wp fun prog w A R s h => by
    obtain ⟨hp, g, d, tk, os⟩ := s; obtain ⟨hl, h⟩ := h
    have hsub := sub_enumerate
    have hL : Heap.IsTuple (Shared.heap ⟨hp, g, d, tk, os⟩) l items := ⟨_, hl, rfl, n, rfl⟩
    wp_walk using wpAny_loadPart' hl
    refine wpAny_stack_any fun st => wpAny_pure ?_
    split
    · rename_i c _ _ _ _ _
      cases (c == Value.type "enumerate")
      · wp_walk using wpAny_loadPart' hl, wpAny_pyIter_tuple hL
        exact ⟨_, rfl, h⟩
      · wp_walk using wpAny_loadPart' hl, wpAny_pyIter_tuple hL
        exact ⟨_, rfl, h⟩
    · wp_walk using wpAny_loadPart' hl, wpAny_pyIter_tuple hL
      exact ⟨_, rfl, h⟩
section
variable {prog : Program} {w : World} {A : Around} {E : Value → Shared → Prop} {s : Shared}
theorem call_enumerate_tuple {l : Addr} {items : Array Value} {Q : Value → Shared → Prop} (hL : s.heap.IsTuple l items)
    (h : ∀ h', IsEnum h' (s.heap.objs.size + 1) s.heap.objs.size 0 .none → h'.IsTupleIter s.heap.objs.size l 0 → h'.objs.size = s.heap.objs.size + 2 →
      (∀ b o, s.heap.get? b = some o → h'.get? b = some o) → Q (.ref (s.heap.objs.size + 1)) { s with heap := h' }) :
    wpAny (model prog w) A (call (.type "enumerate") [.ref l]) Q E s := by
  obtain ⟨⟨c, dct, dt, sl⟩, hl, hc, n, hd⟩ := hL
  replace hc : c = .type "tuple" := hc
  replace hd : dt = .seq items n := hd
  subst hc hd
  refine callType_new F.called_enumerate (by decide) (F.typeCall_enumerate_1 _) (F.newCall_enumerate_1 _) (fun obj => F.args_object_init_2 obj _) F.entry_enumerate_new
    (meets_enumerate_newT l items n dct sl) ⟨hl, ?_⟩
  have hz : (s.heap.push { cls := .type "tuple_iterator", data := .fields #[.ref l, .int 0 0] }).objs.size = s.heap.objs.size + 1 := Heap.size_push ..
  show _ ∧ _
  rw [hz]
  have he : IsEnum ((s.heap.push { cls := .type "tuple_iterator", data := .fields #[.ref l, .int 0 0] }).push
      { cls := .type "enumerate", data := .fields #[.none, .bool false, .ref s.heap.objs.size, rawInt 0, .none, .none] }) (s.heap.objs.size + 1) s.heap.objs.size 0 .none := by
    have := Heap.get?_push_size (s.heap.push { cls := .type "tuple_iterator", data := .fields #[.ref l, .int 0 0] })
      (o := { cls := .type "enumerate", data := .fields #[.none, .bool false, .ref s.heap.objs.size, rawInt 0, .none, .none] }) rfl
    rw [hz] at this; exact this
  refine ⟨⟨_, he, rfl⟩, h _ he ⟨_, Heap.get?_push_of_some _ (Heap.get?_push_size _ rfl), rfl, rfl⟩ (by rw [Heap.size_push, hz]) fun b o x => Heap.get?_push_of_some _ (Heap.get?_push_of_some _ x)⟩
end
/-- the tuple at a, each item in a new pair with its place -/
def IteT (K : PySem.W.Frag) (a : Addr) : It :=
  ⟨fun i H => ∃ (xs : List V) (x : V), SqT K H a xs ∧ xs[i]? = some x, fun i H v H' => ∃ T x, v = .ref T ∧ H T = none ∧ H' = upd H T (.tup [.int (i : Nat), x]) ∧ ∀ xs, SqT K H a xs → xs[i]? = some x, fun i H => ∃ xs : List V, SqT K H a xs ∧ xs.length ≤ i⟩
theorem turn_enumT {P : Program} {w : World} {K : PySem.W.Frag} {elts : List Expr} {kk : Nat} {tpos : Pos} (a e it : Addr) :
    Turn P w K (.Tuple elts kk tpos) (IteT K a) [e, it] e (fun i h => (∃ old, IsEnum h e it ((i : Nat) : Int) old) ∧ h.IsTupleIter it a i ∧ e ≠ it ∧ a ≠ it ∧ a ≠ e) where
  mem := by simp
  obj := fun i h st b hb => by
    obtain ⟨⟨old, he⟩, ⟨o, ho, hc, hd⟩, _⟩ := st
    have e' : b = e ∨ b = it := by simpa using hb
    rcases e' with z | z
    · rw [z]; exact ⟨_, he, fun v q => nomatch q⟩
    · rw [z]; exact ⟨o, ho, fun v q => by rw [hd] at q; cases q⟩
  keep := fun i h h' st k => let ⟨⟨old, he⟩, hi, hne⟩ := st; ⟨⟨old, k e (by simp) _ he⟩, hi.at fun o q => k it (by simp) o q, hne⟩
  item := by
    intro X hP hw hK hc i pins s σ H E I hf st hg
    subst hP hw hK
    obtain ⟨⟨old, he⟩, hit, hne, hai, hae⟩ := st
    obtain ⟨xs, x, hq, hx⟩ := hg
    obtain ⟨its, rv, p, hz⟩ := I.tuple hq
    obtain ⟨u, hu, ru⟩ := rv.get hx
    have hel : e < s.heap.objs.size := Heap.lt_size he
    have hil : it < s.heap.objs.size := by obtain ⟨_, q, _⟩ := hit; exact Heap.lt_size q
    have hlt : i < its.toArray.size := by
      have := (List.getElem?_eq_some_iff.mp hu).1
      simpa using this
    have D := Draws.tuple (prog := X.prog) (w := X.w) (A := X.A.in1) (I.ok.hd hc) it a hai its.toArray
    refine wpAny_pyNext_enum_itemD D he ⟨hit, (show s.heap.IsTuple a its.toArray from p)⟩ hlt hne (by simp [hne, Ne.symm hae]) fun x2 h' tk hP ho hit' hT hsz hk => ?_
    have ex : x2 = u := by
      have h1 : its.toArray[i]? = some x2 := hP
      have h2 : its.toArray[i]? = some u := by simpa using hu
      rw [h1] at h2
      exact Option.some.inj h2
    subst ex
    refine ⟨_, rfl, wpAny_letOwnedTupleGo_enum (s := { s with heap := h', toks := tk + 1 }) ho fun h'' he' sb => ?_⟩
    have hT2 : h''.get? s.heap.objs.size = some { cls := .type "tuple", data := .seq #[.int i tk, x2] } := (sb.2 _ (Nat.ne_of_gt hel)).trans hT
    have new : ObjOk X.prog X.w (upd H s.heap.objs.size (.tup [.int (i : Nat), x])) h'' s.heap.objs.size (.tup [.int (i : Nat), x]) :=
      ⟨by show 2 ≤ sizeLine; decide, [.int i tk, x2], .cons ⟨_, rfl⟩ (.cons ru .nil), ⟨_, hT2, rfl, _, rfl⟩⟩
    have I1 : Inv X pins σ (upd H s.heap.objs.size (.tup [.int (i : Nat), x])) { s with heap := h'', toks := tk + 1 } :=
      I.turnedNew (ch := [e, it]) (fun b ob hb q => (sb.2 b (fun z => hb (by simp [z]))).trans (hk b ob (fun z => hb (by simp [z])) (fun z => hb (by simp [z])) q)) hf (Nat.le_refl _) new
    refine ⟨.ref s.heap.objs.size, _, I1, rfl, ⟨_, x, rfl, I.hok.fresh (Nat.le_refl _), rfl, fun ys hy => by rw [I.tuple_inj hy hq]; exact hx⟩, ⟨⟨x2, ?_⟩, hit'.1.at fun o q => (sb.2 it (Ne.symm hne)).trans q, hne, hai, hae⟩, fun b hb => ?_⟩
    · have e1 : ((i + 1 : Nat) : Int) = (i : Int) + 1 := by omega
      rw [e1]; exact he'
    · have hb' : b < s.heap.objs.size := by
        have e' : b = e ∨ b = it := by simpa using hb
        rcases e' with z | z
        · rw [z]; exact hel
        · rw [z]; exact hil
      rw [upd_ne (Nat.ne_of_lt hb')]
      exact (hf b hb).1
  done := by
    intro X hP hw hK hc i pins s σ H E I hf st hg
    subst hP hw hK
    obtain ⟨⟨old, he⟩, hit, hne, hai, hae⟩ := st
    obtain ⟨xs, hq, hx⟩ := hg
    obtain ⟨its, rv, p, hz⟩ := I.tuple hq
    obtain ⟨f0, f1, f2, f3, f4, f5⟩ := hf it (by simp)
    have hl := rv.length
    have hT : s.TypeIs (.ref e) "enumerate" := ⟨_, he, rfl⟩
    unfold pyNext
    refine wpAny_bind (wpAny_attempt (wpAny_callSpecial?_slot (name := Str.ofString "__next__") hT F.slot_enumerate_next
      (wpAny_call_entry F.slot_enumerate_next hT F.entry_enumerate_next ?_ (F.args_enumerate_next_1 _))))
    show wpAny _ _ (field (.ref e) 2 >>= _) _ _ _
    refine wpAny_bind (wpAny_field he rfl (x := .ref it) rfl ?_)
    refine wpAny_bind (wpAny_nextOf_tuple_end (I.ok.hd hc) hit (show s.heap.IsTuple a its.toArray from p) (by simp; omega) fun h' x he' hx' => ?_)
    obtain ⟨o, ho, hc2⟩ := hx'
    refine wpAny_bind (wpAny_isInstance (T := "StopIteration") (b := true) ⟨o, ho, hc2⟩ isSubtype_stop ?_)
    exact wpAny_pure ⟨rfl, I.turned (t' := s.toks) (fun b o hb q => he' b o hb q) f0 f1 f3 f4 f5⟩
  self := fun A i s Q E st h => let ⟨⟨_, he⟩, _⟩ := st; wpAny_pyIter_enum he h
def iEnumT (K : PySem.W.Frag) (ta : TA) : TI := fun σ H R => ta σ H fun vs H1 => ∃ a xs, vs = [.ref a] ∧ SqT K H1 a xs ∧ R (IteT K a) H1
theorem pi_enumT {X : Cx} {e : Expr} {ta : TA} {p pos tpos : Pos} {elts : List Expr} {kk : Nat} (hg : Gl X "enumerate") (hm : X.mg "enumerate" = none) (ha : PA X [e] ta) (hs : starEach [e] X.env = [(false, eval e X.env)] := by rfl) :
    PI X (.Tuple elts kk tpos) (.Call (.Name "enumerate" p) [e] [] pos) (iEnumT X.K ta) := by
  refine ⟨fun pins s σ H R I h => ?_⟩
  refine Call_ (ld_blt I hg hm boot_enumerate (PyProof.Rows.callWith_type1 (thn (ha.run pos pins s σ H _ I h) fun us s1 ⟨vs, H1, I1, r1, q1⟩ => ?_) hs rfl))
  obtain ⟨a, xs, ex, hq, q⟩ := q1
  subst ex
  cases r1 with
  | cons r rr =>
    cases rr
    cases r
    obtain ⟨its, rv, p', hz⟩ := I1.tuple hq
    have hal : a < s1.heap.objs.size := p'.lt
    refine call_enumerate_tuple (show s1.heap.IsTuple a its.toArray from p') fun h' he hit hsz hk => wpAny_pyIter_enum he ?_
    have I2 : Inv X pins σ H1 { s1 with heap := h' } := I1.kept (t' := s1.toks) hk
    refine ⟨s1.heap.objs.size + 1, [s1.heap.objs.size + 1, s1.heap.objs.size], _, _, H1, rfl, I2, turn_enumT a (s1.heap.objs.size + 1) s1.heap.objs.size, ⟨⟨.none, he⟩, hit, Nat.succ_ne_self _, Nat.ne_of_lt hal, Nat.ne_of_lt (Nat.lt_succ_of_lt hal)⟩, fun b hb => ?_, q⟩
    have e' : b = s1.heap.objs.size + 1 ∨ b = s1.heap.objs.size := by simpa using hb
    have hle : s1.heap.objs.size ≤ b := by
      rcases e' with z | z
      · rw [z]; exact Nat.le_add_right _ _
      · rw [z]; exact Nat.le_refl _
    exact I1.fpOk hle (I1.hok.fresh hle)
section
variable {S : Stc} {ss : List SS} {ow : Ow} {e : Expr} {ds : List PyData} {pos p tpos : Pos} {elts : List Expr} {kk : Nat}
def enumD (ds : List PyData) : List PyData := ds.mapIdx fun i d => .tuple [.int (i : Nat), d]
theorem walk_enumT {K : PySem.W.Frag} {H0 : Hp} {l : Addr} {xs : List V} (hL : SqT K H0 l xs) (hd : DpAll K H0 xs ds) : WalkD K H0 (IteT K l) (enumD ds) := fun i H2 e2 => ⟨fun d hi => by
  unfold enumD at hi
  rw [List.getElem?_mapIdx, Option.map_eq_some_iff] at hi
  obtain ⟨d0, hi, rfl⟩ := hi
  obtain ⟨v, hv, hvd⟩ := hd.get hi
  refine ⟨⟨xs, v, ex_t e2 hL, hv⟩, fun x H3 hy => ?_⟩
  obtain ⟨T, x1, rfl, hT, rfl, f1⟩ := hy
  have q1 := f1 xs (ex_t e2 hL)
  rw [hv] at q1
  cases q1
  exact ⟨Ex.new hT, fun M' h1 h2 => new_pair e2 hT h1 h2 (.int _) hvd⟩, fun hi => ⟨xs, ex_t e2 hL, by
    have h := List.getElem?_eq_none_iff.mp hi
    unfold enumD at h
    rw [List.length_mapIdx] at h
    rw [hd.length]
    exact h⟩⟩
theorem bi_enumT (B0 : Blt S.mg) (hg : IsG S "enumerate") (he : ∀ env : Env, starEach [e] env = [(false, eval e env)]) (ha : B S ss ow e (.tuple ds)) : BI S ss ow (.Tuple elts kk tpos) (.Call (.Name "enumerate" p) [e] [] pos) (enumD ds) := .mk fun M0 σ H g R q =>
  ⟨iEnumT S.K (tA S [e]), fun X F => by have h := pi_enumT (X := X) (p := p) (pos := pos) (tpos := tpos) (elts := elts) (kk := kk) (gl_of F hg) (by rw [F.mg]; exact B0.enumerate) (pa_tA (es := [e]) F) (he _); rwa [F.K] at h,
    (ba_cons ha ba_nil fun env => he env).run M0 σ H g _ fun vs H1 e1 h1 => by
      obtain ⟨v, rfl, hv⟩ := one_of h1
      cases hv with
      | @tup pa xs ds' hL hd => exact ⟨pa, xs, rfl, ex_t cut_le hL, q _ H1 e1 (walk_enumT hL hd)⟩⟩
end
end Mf
end

-- text W5
section
set_option Elab.async false
set_option linter.all false
set_option autoImplicit false
set_option maxRecDepth 100000
/-! W5: targets, comprehensions, statements, loops, a def's promise from its body. -/
namespace Mf
open PySem PySem.Spec PyProof.Rows L2 Evl

/-! ### targets -/
def tG (S : Stc) (tg : Expr) : TG := fun v σ H Q => ∃ g : TG, (∀ X, Fits S X → PG X tg g) ∧ g v σ H Q
theorem pg_tG {S : Stc} {X : Cx} {tg : Expr} (F : Fits S X) : PG X tg (tG S tg) := ⟨fun pins s σ H v u Q I r ⟨g, h, q⟩ => (h X F).run pins s σ H v u Q I r q⟩
structure BG (S : Stc) (tg : Expr) (d : PyData) (ss ss' : List SS) (js : List Nat) : Prop where
  run : ∀ (M0 : Addr → Prop) (ow : Ow) (σ : L2.St) (H : Hp) (v : V), Hds S.K M0 ss ow σ H → Dp S.K (cut (Mk M0 ow) H) v d → ∀ Q : L2.St → Hp → Prop, (∀ σ', Hds S.K M0 ss' ow σ' H → (∀ vs : List Nat, (∀ j ∈ js, j ∈ vs) → wipe σ' vs = wipe σ vs) → Q σ' H) → tG S tg v σ H Q
theorem wipe_set {σ : L2.St} {j : Nat} {o : Option V} : ∀ {vs : List Nat}, j ∈ vs → wipe (σ.set j o) vs = wipe σ vs
  | [], h => by cases h
  | v :: vs, h => by
    unfold wipe
    by_cases e : j ∈ vs
    · rw [wipe_set e]
    · have hj : j = v := by
        rcases List.mem_cons.mp h with h | h
        · exact h
        · exact absurd h e
      subst hj
      clear h
      induction vs with
      | nil => show ((σ.set j o).set j none) = σ.set j none; rw [List.set_set]
      | cons w vs ih =>
        have hw : j ≠ w := fun z => e (by rw [z]; exact List.mem_cons_self)
        have hvs : j ∉ vs := fun z => e (List.mem_cons_of_mem _ z)
        show ((wipe (σ.set j o) vs).set w none).set j none = ((wipe σ vs).set w none).set j none
        rw [List.set_comm _ _ (Ne.symm hw), List.set_comm _ _ (Ne.symm hw), ih hvs]
theorem wipe_wipe {σ : L2.St} (vs : List Nat) : wipe (wipe σ vs) vs = wipe σ vs := by
  have h : ∀ (ws : List Nat), (∀ w ∈ ws, w ∈ vs) → wipe (wipe σ ws) vs = wipe σ vs := by
    intro ws
    induction ws with
    | nil => intro _; rfl
    | cons w ws ih =>
      intro hw
      show wipe ((wipe σ ws).set w none) vs = wipe σ vs
      rw [wipe_set (hw w List.mem_cons_self)]
      exact ih fun z hz => hw z (List.mem_cons_of_mem _ hz)
  exact h vs fun _ h => h
section
variable {S : Stc} {ss : List SS} {ow : Ow} {x y z : Str} {px py pz pos : Pos} {i j k : Nat} {d d1 d2 d3 : PyData}
abbrev LocS (S : Stc) (x : Str) : Prop := Loc S.sc x ∧ (S.own = true ∨ S.sc.names.lookup x = some .local)
theorem pg_nameS {X : Cx} (F : Fits S X) (hi : S.N[i]? = some x) (hx : LocS S x) : PG X (.Name x px) (gName i) :=
  pg_name (by rw [F.N]; exact F.nd) (by rw [F.N]; exact hi) (by rw [F.sc]; exact hx.1) (by
    rcases hx.2 with h | h
    · exact .inl (by rw [F.fn h])
    · exact .inr (by rw [F.sc]; exact h))
theorem bg_name (hi : S.N[i]? = some x) (hx : LocS S x) : BG S (.Name x px) d ss (ss.set i (.dat d)) [i] := .mk fun M0 ow σ H v g h Q q =>
  ⟨gName i, fun X F => pg_nameS F hi hx, q _ (g.setD h) fun vs hv => wipe_set (hv i List.mem_cons_self)⟩
theorem bg_pair {kt : Nat} (hi : S.N[i]? = some x) (hx : LocS S x) (hj : S.N[j]? = some y) (hy : LocS S y) : BG S (.Tuple [.Name x px, .Name y py] kt pos) (.tuple [d1, d2]) ss ((ss.set i (.dat d1)).set j (.dat d2)) [i, j] := .mk fun M0 ow σ H v g h Q q =>
  ⟨gTup S.K 2 (gCons (gName i) (gCons (gName j) gNil)), fun X F => by have h := pg_tup (X := X) (k := kt) (pos := pos) F.calm (pgs_cons (pg_nameS (px := px) F hi hx) (pgs_cons (pg_nameS (px := py) F hj hy) pgs_nil)); rwa [F.K] at h, by
    cases h with
    | @tup a xs ds hL hd =>
      obtain ⟨v1, v2, rfl, h1, h2⟩ := two_of hd
      refine ⟨a, _, rfl, ex_t cut_le hL, rfl, v1, [v2], rfl, v2, [], rfl, rfl, q _ ((g.setD h1).setD h2) fun vs hv => ?_⟩
      rw [wipe_set (hv j (List.mem_cons_of_mem _ List.mem_cons_self)), wipe_set (hv i List.mem_cons_self)]⟩
theorem bg_trip {kt : Nat} (hi : S.N[i]? = some x) (hx : LocS S x) (hj : S.N[j]? = some y) (hy : LocS S y) (hk : S.N[k]? = some z) (hz : LocS S z) : BG S (.Tuple [.Name x px, .Name y py, .Name z pz] kt pos) (.tuple [d1, d2, d3]) ss (((ss.set i (.dat d1)).set j (.dat d2)).set k (.dat d3)) [i, j, k] := .mk fun M0 ow σ H v g h Q q =>
  ⟨gTup S.K 3 (gCons (gName i) (gCons (gName j) (gCons (gName k) gNil))), fun X F => by have h := pg_tup (X := X) (k := kt) (pos := pos) F.calm (pgs_cons (pg_nameS (px := px) F hi hx) (pgs_cons (pg_nameS (px := py) F hj hy) (pgs_cons (pg_nameS (px := pz) F hk hz) pgs_nil))); rwa [F.K] at h, by
    cases h with
    | @tup a xs ds hL hd =>
      cases hd with
      | cons h1 hd =>
        obtain ⟨v2, v3, rfl, h2, h3⟩ := two_of hd
        refine ⟨a, _, rfl, ex_t cut_le hL, rfl, _, [v2, v3], rfl, v2, [v3], rfl, v3, [], rfl, rfl, q _ (((g.setD h1).setD h2).setD h3) fun vs hv => ?_⟩
        rw [wipe_set (hv k (by simp)), wipe_set (hv j (by simp)), wipe_set (hv i (by simp))]⟩
end

/-! ### comprehensions -/
@[reducible] def Stc.blk (S : Stc) (scope : Scope) : Stc := { S with sc := relS scope S.sc, own := false }
theorem fits_blk {S : Stc} {X : Cx} (F : Fits S X) {s : Shared} {H : Hp} {scope : Scope} {cl : List (Str × Addr)} {C : Addr} {fp : List Addr} : Fits (S.blk scope) (X.blk s H scope (compEnvC scope cl C X.env) fp) where
  prog := F.prog
  w := F.w
  K := F.K
  mg := F.mg
  base := F.base
  N := F.N
  sc := by
    show relS scope X.env.scope = relS scope S.sc
    rw [F.sc]
  room := F.room
  k32 := F.k32
  calm := F.calm
  xe := rfl
  stk := F.stk
  fn := fun h => by cases (show false = true from h)
  nd := F.nd
  blt := F.blt
  seer := F.seer
  tree := F.tree
def wipeS (ss : List SS) : List Nat → List SS
  | [] => ss
  | v :: vs => (wipeS ss vs).set v .any
theorem Hds.any {K : PySem.W.Frag} {M0 : Addr → Prop} {ss : List SS} {ow : Ow} {σ : L2.St} {H : Hp} (g : Hds K M0 ss ow σ H) (i : Nat) (o : Option V) : Hds K M0 (ss.set i .any) ow (σ.set i o) H where
  m0 := g.m0
  dj := g.dj
  nd := g.nd
  own := g.own
  len := by rw [List.length_set, List.length_set]; exact g.len
  sl := fun j t ht => by
    by_cases hj : i = j
    · subst hj
      have hi : i < ss.length := by
        have := (List.getElem?_eq_some_iff.mp ht).1
        rwa [List.length_set] at this
      rw [List.getElem?_set_self hi] at ht
      cases ht
      exact ⟨o, List.getElem?_set_self (by rw [g.len]; exact hi), trivial⟩
    · rw [List.getElem?_set_ne hj] at ht
      obtain ⟨o', h1, h2⟩ := g.sl j t ht
      exact ⟨o', by rw [List.getElem?_set_ne hj]; exact h1, h2⟩
theorem Hds.wipe {K : PySem.W.Frag} {M0 : Addr → Prop} {ss : List SS} {ow : Ow} {σ : L2.St} {H : Hp} (g : Hds K M0 ss ow σ H) : ∀ vs : List Nat, Hds K M0 (wipeS ss vs) ow (L2.wipe σ vs) H
  | [] => g
  | v :: vs => (Hds.wipe g vs).any v none
/-- a further address is masked: one that was new -/
theorem Hds.more {K : PySem.W.Frag} {M0 : Addr → Prop} {ss : List SS} {ow : Ow} {σ : L2.St} {H H' : Hp} {D : Addr} (g : Hds K M0 ss ow σ H) (hD : H D = none) (e : Ex H H') (hD' : H' D ≠ none) : Hds K (fun a => M0 a ∨ a = D) ss ow σ H' := by
  have ee : Ex (cut (Mk M0 ow) H) (cut (Mk (fun a => M0 a ∨ a = D) ow) H') := fun a o h => by
    obtain ⟨n, h⟩ := cut_some.mp h
    refine cut_of (fun z => ?_) (e a o h)
    rcases z with (z | z) | z
    · exact n (.inl z)
    · rw [z, hD] at h; cases h
    · exact n (.inr z)
  refine ⟨fun a h => ?_, fun p hp h => ?_, g.nd, fun p hp => ?_, g.len, fun i s hs => ?_⟩
  · rcases h with h | h
    · exact (g.ex e).m0 a h
    · rw [h]; exact hD'
  · rcases h with h | h
    · exact g.dj p hp h
    · obtain ⟨vs, h1, _⟩ := g.own p hp
      rw [h, hD] at h1; cases h1
  · obtain ⟨vs, h1, h2⟩ := g.own p hp
    exact ⟨vs, e _ _ h1, h2.mono ee⟩
  · obtain ⟨o, h1, h2⟩ := g.sl i s hs
    exact ⟨o, h1, h2.mono ee⟩
theorem cut_upd {M : Addr → Prop} {H : Hp} {D : Addr} {o : HO} (h : M D) : Ex (cut M H) (cut M (upd H D o)) := fun a u q => by
  obtain ⟨n, q⟩ := cut_some.mp q
  exact cut_of n (by rw [upd_ne (fun z => n (by rw [z]; exact h))]; exact q)
def tTs (S : Stc) (ifs : List Expr) : TT := fun σ H Q => ∃ t : TT, (∀ X, Fits S X → PTs X ifs t) ∧ t σ H Q
theorem pts_tTs {S : Stc} {X : Cx} {ifs : List Expr} (F : Fits S X) : PTs X ifs (tTs S ifs) := ⟨fun pins s σ H Q I ⟨t, h, q⟩ => (h X F).run pins s σ H Q I q⟩
structure BTs (S : Stc) (ss : List SS) (ow : Ow) (ifs : List Expr) (b : Bool) : Prop where
  run : ∀ (M0 : Addr → Prop) (σ : L2.St) (H : Hp), Hds S.K M0 ss ow σ H → ∀ Q : Bool → Hp → Prop, (∀ H2, Ex H H2 → Q b H2) → tTs S ifs σ H Q
theorem bts_nil {S : Stc} {ss : List SS} {ow : Ow} : BTs S ss ow [] true := .mk fun M0 σ H g Q q => ⟨tYes, fun X F => pts_nil, q H (Ex.refl H)⟩
theorem bts_one {S : Stc} {ss : List SS} {ow : Ow} {c : Expr} {b : Bool} (h : BT S ss ow c b) : BTs S ss ow [c] b := .mk fun M0 σ H g Q q => ⟨tT S c, fun X F => pts_one (pt_tT F), h.run M0 σ H g Q q⟩
def lcRes {α : Type} (as : List α) (f : α → Bool) (v : α → PyData) : List PyData := (as.filter f).map v
/-- what a turn of a comprehension does -/
def LTurn {α : Type} (S : Stc) (ss : List SS) (ow : Ow) (tg elt : Expr) (ifs : List Expr) (vs : List Nat) (g : α → PyData) (f : α → Bool) (v : α → PyData) (a : α) : Prop :=
  ∃ ss2 js, (∀ j ∈ js, j ∈ vs) ∧ BG S tg (g a) (wipeS ss vs) ss2 js ∧ BTs S ss2 ow ifs (f a) ∧ (f a = true → B S ss2 ow elt (v a))
theorem lc_read {α : Type} {S : Stc} {ss : List SS} {ow : Ow} {tg iter elt : Expr} {ifs : List Expr} {scope : Scope} {vs : List Nat} {as : List α} {g : α → PyData} {f : α → Bool} {v : α → PyData}
    (hi : BI S ss ow tg iter (as.map g)) (hl : as.length ≤ 100000) (turn : ∀ a ∈ as, LTurn (S.blk scope) ss ow tg elt ifs vs g f v a) {M0 : Addr → Prop} {σ : L2.St} {H : Hp} (gd : Hds S.K M0 ss ow σ H) (Q : VK)
    (q : ∀ p ws H2, H p = none → Ex H H2 → H2 p = some (.lst ws) → DpAll S.K (cut (fun a => Mk M0 ow a ∨ a = p) H2) ws (lcRes as f v) → Q (.ref p) H2) :
    tLc (tI S tg iter) (tG (S.blk scope) tg) (tTs (S.blk scope) ifs) (tE (S.blk scope) elt) vs σ H Q := hi.run M0 σ H gd _ fun J H1 e1 hw D hD => by
  have g1 := gd.ex e1
  refine ⟨fun i m H' => m = as.length - i ∧ i ≤ as.length ∧ Ex H1 H' ∧ ∃ acc, H' D = some (.lst acc) ∧ DpAll S.K (cut (Mk (fun a => M0 a ∨ a = D) ow) H') acc (lcRes (as.take i) f v),
    ⟨as.length, by simp, Nat.zero_le _, Ex.new hD, [], upd_same, .nil⟩, fun i m H' hW => ?_⟩
  obtain ⟨rfl, hile, ex1, acc, hacc, hda⟩ := hW
  have gM : Hds S.K (fun a => M0 a ∨ a = D) ss ow σ H' := g1.more hD ex1 (by rw [hacc]; exact fun z => nomatch z)
  obtain ⟨wgo, wstop⟩ := hw i H' (fun a o h => ex1 a o (cut_le a o h))
  by_cases hlt : i < as.length
  · obtain ⟨go, yl⟩ := wgo (g as[i]) (by rw [List.getElem?_map, List.getElem?_eq_getElem hlt]; rfl)
    refine .inr ⟨go, fun H2 => Ex H1 H2 ∧ ∃ acc, H2 D = some (.lst acc) ∧ DpAll S.K (cut (Mk (fun a => M0 a ∨ a = D) ow) H2) acc (lcRes (as.take (i + 1)) f v), fun H2 hN => ⟨as.length - (i + 1), by omega, rfl, hlt, hN⟩, fun x H2 hy => ?_⟩
    obtain ⟨ex2, hx⟩ := yl x H2 hy
    have hxd : Dp S.K (cut (Mk (fun a => M0 a ∨ a = D) ow) H2) x (g as[i]) := hx _ gM.mk_dom fun a o h z => by
      obtain ⟨n, h⟩ := cut_some.mp h
      rcases z with (z | z) | z
      · exact n (.inl z)
      · rw [z, hD] at h; cases h
      · exact n (.inr z)
    obtain ⟨ss2, js, hjs, hbg, hbt, hbe⟩ := turn as[i] (List.getElem_mem hlt)
    have hstep : lcRes (as.take (i + 1)) f v = lcRes (as.take i) f v ++ (if f as[i] = true then [v as[i]] else []) := by
      unfold lcRes
      rw [List.take_add_one, List.getElem?_eq_getElem hlt, List.filter_append, List.map_append]
      congr 1
      show List.map v (List.filter f [as[i]]) = _
      rw [List.filter_cons]
      split <;> rfl
    refine hbg.run _ ow _ H2 x ((gM.ex ex2).wipe vs) hxd _ fun σ2 g2 hw2 => ⟨(hw2 vs hjs).trans (wipe_wipe vs), ?_⟩
    refine hbt.run _ σ2 H2 g2 _ fun H3 e3 => ?_
    by_cases hf : f as[i] = true
    · rw [if_pos hf]
      refine (hbe hf).run _ σ2 H3 (g2.ex e3) _ fun y H4 e4 hyd => ?_
      have e24 := (ex2.trans e3).trans e4
      have hacc4 : H4 D = some (.lst acc) := e24 _ _ hacc
      refine ⟨acc, hacc4, ?_, fun a o h => ?_, acc ++ [y], upd_same, ?_⟩
      · have h1 := hda.length
        have h2 : (lcRes (as.take i) f v).length ≤ i := by
          unfold lcRes
          rw [List.length_map]
          refine Nat.le_trans (List.length_filter_le _ _) ?_
          rw [List.length_take]
          exact Nat.min_le_left _ _
        exact sz_lt (by omega)
      · have hne : a ≠ D := fun z => by rw [z, hD] at h; cases h
        rw [upd_ne hne]
        exact e24 a o (ex1 a o h)
      · rw [hstep, if_pos hf]
        exact ((hda.mono (cut_ex e24)).append (.cons hyd .nil)).mono (cut_upd (.inl (.inr rfl)))
    · have hf' : f as[i] = false := by
        cases h : f as[i] with
        | true => exact absurd h hf
        | false => rfl
      rw [if_neg (by rw [hf']; exact Bool.false_ne_true)]
      refine ⟨(ex1.trans ex2).trans e3, acc, (ex2.trans e3) _ _ hacc, ?_⟩
      rw [hstep, if_neg hf, List.append_nil]
      exact hda.mono (cut_ex (ex2.trans e3))
  · have ei : i = as.length := by omega
    subst ei
    refine .inl ⟨wstop (by rw [List.getElem?_eq_none_iff, List.length_map]; exact Nat.le_refl _), ?_⟩
    rw [List.take_length] at hda
    refine q D acc H' (fresh_back e1 hD) (e1.trans ex1) hacc (hda.mono fun a o h => ?_)
    obtain ⟨n, h⟩ := cut_some.mp h
    exact cut_of (fun z => n (by
      rcases z with (z | z) | z
      · exact .inl (.inl z)
      · exact .inr z
      · exact .inl (.inr z))) h
theorem bl_lc {α : Type} {S : Stc} {ss : List SS} {ow : Ow} {tg iter elt : Expr} {ifs : List Expr} {scope : Scope} {pos : Pos} {as : List α} {g : α → PyData} {f : α → Bool} {v : α → PyData} (own : List (Str × Nat)) (ok : blkC S.N S.sc scope own = true)
    (hi : BI S ss ow tg iter (as.map g)) (hl : as.length ≤ 100000) (turn : ∀ a ∈ as, LTurn (S.blk scope) ss ow tg elt ifs (own.map (·.2)) g f v a) (hs : ∀ (env : Env) x, foldedSetIterable iter env x = pure x) :
    BL S ss ow (.ListComp elt [⟨tg, iter, ifs, 0⟩] scope pos) (lcRes as f v) := .mk fun M0 σ H gd Q q =>
  ⟨tLc (tI S tg iter) (tG (S.blk scope) tg) (tTs (S.blk scope) ifs) (tE (S.blk scope) elt) (own.map (·.2)), fun X F => pe_lc F.calm (by rw [F.N]; exact F.nd) (pi_tI F) (by rw [F.N, F.sc]; exact blkOk_by ok)
    (fun _ _ _ _ _ => pg_tG (fits_blk F)) (fun _ _ _ _ _ => pts_tTs (fits_blk F)) (fun _ _ _ _ _ => pe_tE (fits_blk F)) (hs _), lc_read hi hl turn gd Q q⟩

/-! ### statements -/
def Rel (ow : Ow) (H : Hp) (ow' : Ow) (H' : Hp) : Prop := (∀ a o, H a = some o → a ∉ ow.map (·.1) → H' a = some o) ∧ ∀ p ∈ ow', p.1 ∈ ow.map (·.1) ∨ H p.1 = none
theorem Rel.refl (ow : Ow) (H : Hp) : Rel ow H ow H := ⟨fun _ _ h _ => h, fun p hp => .inl (List.mem_map_of_mem hp)⟩
theorem Rel.of_ex {ow : Ow} {H H' : Hp} (e : Ex H H') : Rel ow H ow H' := ⟨fun a o h _ => e a o h, fun p hp => .inl (List.mem_map_of_mem hp)⟩
theorem Rel.trans {ow ow1 ow2 : Ow} {H H1 H2 : Hp} (a : Rel ow H ow1 H1) (b : Rel ow1 H1 ow2 H2) : Rel ow H ow2 H2 := by
  refine ⟨fun c o h n => b.1 c o (a.1 c o h n) fun z => ?_, fun p hp => ?_⟩
  · obtain ⟨p, hp, e⟩ := List.mem_map.mp z
    rcases a.2 p hp with q | q
    · exact n (by rw [← e]; exact q)
    · rw [e, h] at q; cases q
  · rcases b.2 p hp with q | q
    · obtain ⟨p', hp', e⟩ := List.mem_map.mp q
      have := a.2 p' hp'
      rw [e] at this
      exact this
    · by_cases hm : p.1 ∈ ow.map (·.1)
      · exact .inl hm
      · cases h : H p.1 with
        | none => exact .inr rfl
        | some o =>
          rw [a.1 _ _ h hm] at q
          cases q
/-- a block from the slots ss and the owned lists ow: it falls through with nx, or hands back data with rt -/
def R (S : Stc) (ss : List SS) (ow : Ow) (sts : List Stmt) (nx : List SS → Ow → Prop) (rt : PyData → Ow → Prop) : Prop :=
  ∀ (M0 : Addr → Prop) (σ : L2.St) (H : Hp), Hds S.K M0 ss ow σ H → ∀ D : Ends,
    (∀ ss' ow' σ' H', nx ss' ow' → Hds S.K M0 ss' ow' σ' H' → Rel ow H ow' H' → D.nx σ' H') →
    (∀ d ow' ss' σ' v H', rt d ow' → Hds S.K M0 ss' ow' σ' H' → Rel ow H ow' H' → Dp S.K (cut (Mk M0 ow') H') v d → D.rt v H') → tSs S sts D σ H
section
variable {S : Stc} {ss : List SS} {ow : Ow} {e a b c : Expr} {st : Stmt} {sts rest : List Stmt} {nx : List SS → Ow → Prop} {rt : PyData → Ow → Prop} {d d1 d2 : PyData} {ds : List PyData} {pos p p' : Pos} {x y : Str} {i j : Nat} {t : Bool}
theorem tSs_cons {D : Ends} {σ : L2.St} {H : Hp} (h : tSt S st { D with nx := fun σ' H' => tSs S rest D σ' H' } σ H) : tSs S (st :: rest) D σ H :=
  ⟨tSeq (tSt S st) (tSs S rest), fun X F => pss_cons (ps_tSt F) (pss_tSs F), h⟩
theorem r_nil (h : nx ss ow) : R S ss ow [] nx rt := fun M0 σ H g D hn _ => ⟨tNext, fun X F => pss_nil, hn ss ow σ H h g (Rel.refl ow H)⟩
/-- from a state reached -/
theorem R.at_ {M0 : Addr → Prop} {σ1 : L2.St} {H H1 : Hp} {ss1 : List SS} {ow0 ow1 : Ow} (h : R S ss1 ow1 sts nx rt) (g : Hds S.K M0 ss1 ow1 σ1 H1) (r : Rel ow0 H ow1 H1) {D : Ends}
    (hn : ∀ ss' ow' σ' H', nx ss' ow' → Hds S.K M0 ss' ow' σ' H' → Rel ow0 H ow' H' → D.nx σ' H')
    (hr : ∀ d ow' ss' σ' v H', rt d ow' → Hds S.K M0 ss' ow' σ' H' → Rel ow0 H ow' H' → Dp S.K (cut (Mk M0 ow') H') v d → D.rt v H') : tSs S sts D σ1 H1 :=
  h M0 σ1 H1 g D (fun ss' ow' σ' H' n g' r' => hn ss' ow' σ' H' n g' (r.trans r')) fun d ow' ss' σ' v H' n g' r' hd => hr d ow' ss' σ' v H' n g' (r.trans r') hd
theorem r_set (hi : S.N[i]? = some x) (hx : LocS S x) (he : B S ss ow e d) (hs : ∀ env : Env, env.scope = S.sc → swapsWith e (some (.Name x p')) pos.line env = pure false) (k : R S (ss.set i (.dat d)) ow rest nx rt) : R S ss ow (.Assign [.Name x p'] e pos :: rest) nx rt :=
  fun M0 σ H g D hn hr => tSs_cons ⟨tAsg (tE S e) (gName i), fun X F => ps_set (by rw [F.N]; exact F.nd) (by rw [F.N]; exact hi) (by rw [F.sc]; exact hx.1) (pe_tE F) (hs _ F.sc) (by
      rcases hx.2 with h | h
      · exact .inl (by rw [F.fn h])
      · exact .inr (by rw [F.sc]; exact h)), he.run M0 σ H g _ fun v H1 e1 hv => k.at_ ((g.ex e1).setD hv) (Rel.of_ex e1) hn hr⟩
/-- a new list is owned -/
theorem Hds.ownNew {K : PySem.W.Frag} {M0 : Addr → Prop} {σ : L2.St} {H H1 : Hp} {l : Addr} {vs : List V} (g : Hds K M0 ss ow σ H) (hl : H l = none) (e1 : Ex H H1) (h1 : H1 l = some (.lst vs)) (hd : DpAll K (cut (fun a => Mk M0 ow a ∨ a = l) H1) vs ds) :
    Hds K M0 ss ((l, ds) :: ow) σ H1 := by
  have hm : ∀ a o, cut (Mk M0 ow) H a = some o → cut (Mk M0 ((l, ds) :: ow)) H1 a = some o := fun a o h => by
    obtain ⟨n, h⟩ := cut_some.mp h
    refine cut_of (fun z => ?_) (e1 a o h)
    rcases z with z | z
    · exact n (.inl z)
    · rw [List.map_cons] at z
      rcases List.mem_cons.mp z with z | z
      · rw [z, hl] at h; cases h
      · exact n (.inr z)
  have hm2 : ∀ a o, cut (fun a => Mk M0 ow a ∨ a = l) H1 a = some o → cut (Mk M0 ((l, ds) :: ow)) H1 a = some o := fun a o h => by
    obtain ⟨n, h⟩ := cut_some.mp h
    refine cut_of (fun z => n ?_) h
    rcases z with z | z
    · exact .inl (.inl z)
    · rw [List.map_cons] at z
      rcases List.mem_cons.mp z with z | z
      · exact .inr z
      · exact .inl (.inr z)
  refine ⟨(g.ex e1).m0, fun p hp z => ?_, ?_, fun p hp => ?_, g.len, fun i s hs => ?_⟩
  · rcases List.mem_cons.mp hp with rfl | hp
    · exact g.m0 _ z hl
    · exact g.dj p hp z
  · rw [List.map_cons, List.nodup_cons]
    refine ⟨fun z => ?_, g.nd⟩
    exact g.mk_dom l (.inr z) hl
  · rcases List.mem_cons.mp hp with rfl | hp
    · exact ⟨vs, h1, hd.mono hm2⟩
    · obtain ⟨ws, q1, q2⟩ := g.own p hp
      exact ⟨ws, e1 _ _ q1, q2.mono hm⟩
  · obtain ⟨o, q1, q2⟩ := g.sl i s hs
    exact ⟨o, q1, q2.mono hm⟩
theorem Hds.setA {K : PySem.W.Frag} {M0 : Addr → Prop} {σ : L2.St} {H : Hp} (g : Hds K M0 ss ow σ H) (i : Nat) (l : Addr) : Hds K M0 (ss.set i (.adr l)) ow (σ.set i (some (.ref l))) H := g.set (s := .adr l) rfl
theorem Rel.ownNew {H H1 : Hp} {l : Addr} (hl : H l = none) (e1 : Ex H H1) : Rel ow H ((l, ds) :: ow) H1 := ⟨fun a o h _ => e1 a o h, fun p hp => by
  rcases List.mem_cons.mp hp with rfl | hp
  · exact .inr hl
  · exact .inl (List.mem_map_of_mem hp)⟩
theorem r_setL (hi : S.N[i]? = some x) (hx : LocS S x) (he : BL S ss ow e ds) (hs : ∀ env : Env, env.scope = S.sc → swapsWith e (some (.Name x p')) pos.line env = pure false) (k : ∀ l, R S (ss.set i (.adr l)) ((l, ds) :: ow) rest nx rt) : R S ss ow (.Assign [.Name x p'] e pos :: rest) nx rt :=
  fun M0 σ H g D hn hr => tSs_cons ⟨tAsg (tE S e) (gName i), fun X F => ps_set (by rw [F.N]; exact F.nd) (by rw [F.N]; exact hi) (by rw [F.sc]; exact hx.1) (pe_tE F) (hs _ F.sc) (by
      rcases hx.2 with h | h
      · exact .inl (by rw [F.fn h])
      · exact .inr (by rw [F.sc]; exact h)), he.run M0 σ H g _ fun l vs H1 hl e1 h1 hd => (k l).at_ ((g.ownNew hl e1 h1 hd).setA i l) (Rel.ownNew hl e1) hn hr⟩
/-- y = [..] on one line -/
theorem r_setLc {α : Type} {tg iter elt : Expr} {ifs : List Expr} {scope : Scope} {as : List α} {g : α → PyData} {f : α → Bool} {v : α → PyData} (own : List (Str × Nat)) (ok : blkC S.N S.sc scope own = true) (hy : S.N[i]? = some y) (hyl : S.sc.names.lookup y = some .local)
    (hsw : ∀ env : Env, env.scope = S.sc → swapsWith (.ListComp elt [⟨tg, iter, ifs, 0⟩] scope p) (some (.Name y p')) pos.line env = pure true)
    (hi : BI S ss ow tg iter (as.map g)) (hl : as.length ≤ 100000) (turn : ∀ a ∈ as, LTurn (S.blk scope) ss ow tg elt ifs (own.map (·.2)) g f v a) (hs : ∀ (env : Env) x, foldedSetIterable iter env x = pure x)
    (k : R S (ss.set i (.dat (.list (lcRes as f v)))) ow rest nx rt) : R S ss ow (.Assign [.Name y p'] (.ListComp elt [⟨tg, iter, ifs, 0⟩] scope p) pos :: rest) nx rt :=
  fun M0 σ H gd D hn hr => by
    refine tSs_cons ⟨tAsg (tLc (tI S tg iter) (tG (S.blk scope) tg) (tTs (S.blk scope) ifs) (tE (S.blk scope) elt) (own.map (·.2))) (gName i), fun X F => ps_setLc F.calm (by rw [F.N]; exact F.nd) (by rw [F.N]; exact hy) (by rw [F.sc]; exact hyl) (hsw _ F.sc) (pi_tI F) (by rw [F.N, F.sc]; exact blkOk_by ok)
      (fun _ _ _ _ _ => pg_tG (fits_blk F)) (fun _ _ _ _ _ => pts_tTs (fits_blk F)) (fun _ _ _ _ _ => pe_tE (fits_blk F)) (hs _), ?_⟩
    refine lc_read hi hl turn gd (fun z H1 => tSs S rest D (σ.set i (some z)) H1) fun l ws H1 hp e1 h1 hd => ?_
    have hm : ¬ Mk M0 ow l := fun z => gd.mk_dom l z hp
    refine k.at_ ((gd.ex e1).setD (.lst (.inl (.inl (cut_of hm h1))) (hd.mono fun a' o ha => ?_))) (Rel.of_ex e1) hn hr
    obtain ⟨n, ha⟩ := cut_some.mp ha
    exact cut_of (fun z => n (.inl z)) ha
/-- any target -/
theorem r_asg {tg : Expr} {ss' : List SS} {js : List Nat} (he : B S ss ow e d) (hg : BG S tg d ss ss' js) (hs : ∀ env : Env, env.scope = S.sc → swapsWithSole [tg] e pos.line env = pure false) (hw : ∀ env : Env, env.scope = S.sc → swappedStores [tg] e env = pure none) (h1 : ∀ env : Env, (assignEach [tg] env).map (·.2) = [assign tg env])
    (k : R S ss' ow rest nx rt) : R S ss ow (.Assign [tg] e pos :: rest) nx rt :=
  fun M0 σ H g D hn hr => tSs_cons ⟨tAsg (tE S e) (tG S tg), fun X F => ps_asg (pe_tE F) (pg_tG F) (hs _ F.sc) (hw _ F.sc) (h1 _), he.run M0 σ H g _ fun v H1 e1 hv => hg.run M0 ow σ H1 v (g.ex e1) hv _ fun σ' g' _ => k.at_ g' (Rel.of_ex e1) hn hr⟩
/-- x, y = a, b with plain names -/
theorem ps_parS {X : Cx} (F : Fits S X) {px py pt pt2 : Pos} {kt k2 : Nat} (hi : S.N[i]? = some x) (hj : S.N[j]? = some y) (hij : i ≠ j) (hx : S.sc.names.lookup x = some .local) (hy : S.sc.names.lookup y = some .local) {ta : TA} (ha : PA X [a, b] ta)
    (hw : ∀ env : Env, env.scope = S.sc → swappedStores [.Tuple [.Name x px, .Name y py] kt pt] (.Tuple [a, b] k2 pt2) env = pure (some [x, y])) (hs : ∀ env : Env, env.scope = S.sc → swapsWithSole [.Tuple [.Name x px, .Name y py] kt pt] (.Tuple [a, b] k2 pt2) pos.line env = pure false) :
    PS X (.Assign [.Tuple [.Name x px, .Name y py] kt pt] (.Tuple [a, b] k2 pt2) pos) (tPar i j ta) :=
  ps_par F.calm (by rw [F.N]; exact F.nd) (by rw [F.N]; exact hi) (by rw [F.N]; exact hj) hij (by rw [F.sc]; exact hx) (by rw [F.sc]; exact hy) ha (hw _ F.sc) (hs _ F.sc)
theorem r_par {px py pt pt2 : Pos} {kt k2 : Nat} (hi : S.N[i]? = some x) (hj : S.N[j]? = some y) (hij : i ≠ j) (hx : S.sc.names.lookup x = some .local) (hy : S.sc.names.lookup y = some .local) (ha : BA S ss ow [a, b] [d1, d2])
    (hw : ∀ env : Env, env.scope = S.sc → swappedStores [.Tuple [.Name x px, .Name y py] kt pt] (.Tuple [a, b] k2 pt2) env = pure (some [x, y])) (hs : ∀ env : Env, env.scope = S.sc → swapsWithSole [.Tuple [.Name x px, .Name y py] kt pt] (.Tuple [a, b] k2 pt2) pos.line env = pure false)
    (k : R S ((ss.set i (.dat d1)).set j (.dat d2)) ow rest nx rt) : R S ss ow (.Assign [.Tuple [.Name x px, .Name y py] kt pt] (.Tuple [a, b] k2 pt2) pos :: rest) nx rt :=
  fun M0 σ H g D hn hr => tSs_cons ⟨tPar i j (tA S [a, b]), fun X F => ps_parS F hi hj hij hx hy (pa_tA F) hw hs, ha.run M0 σ H g _ fun vs H1 e1 h1 => by
    obtain ⟨v, w, rfl, hv, hw⟩ := two_of h1
    exact ⟨v, w, rfl, k.at_ (((g.ex e1).setD hv).setD hw) (Rel.of_ex e1) hn hr⟩⟩
/-- .. the first a new list that is owned -/
theorem r_parL1 {px py pt pt2 : Pos} {kt k2 : Nat} (hi : S.N[i]? = some x) (hj : S.N[j]? = some y) (hij : i ≠ j) (hx : S.sc.names.lookup x = some .local) (hy : S.sc.names.lookup y = some .local) (ha : BL S ss ow a ds) (hb : B S ss ow b d2)
    (hw : ∀ env : Env, env.scope = S.sc → swappedStores [.Tuple [.Name x px, .Name y py] kt pt] (.Tuple [a, b] k2 pt2) env = pure (some [x, y])) (hs : ∀ env : Env, env.scope = S.sc → swapsWithSole [.Tuple [.Name x px, .Name y py] kt pt] (.Tuple [a, b] k2 pt2) pos.line env = pure false)
    (he : ∀ env : Env, starEach [a, b] env = (false, eval a env) :: starEach [b] env) (he2 : ∀ env : Env, starEach [b] env = (false, eval b env) :: starEach [] env)
    (k : ∀ l, R S ((ss.set i (.adr l)).set j (.dat d2)) ((l, ds) :: ow) rest nx rt) : R S ss ow (.Assign [.Tuple [.Name x px, .Name y py] kt pt] (.Tuple [a, b] k2 pt2) pos :: rest) nx rt :=
  fun M0 σ H g D hn hr => tSs_cons ⟨tPar i j (tCons (tE S a) (tCons (tE S b) tNil)), fun X F => ps_parS F hi hj hij hx hy (pa_cons (pe_tE F) (pa_cons (pe_tE F) pa_nil (he2 _)) (he _)) hw hs,
    ha.run M0 σ H g _ fun l vs H1 hl e1 h1 hd => by
      have g1 : Hds S.K (fun a => M0 a ∨ a = l) ss ow σ H1 := g.more hl e1 (by rw [h1]; exact fun z => nomatch z)
      refine hb.run _ σ H1 g1 _ fun w H2 e2 hw2 => ⟨.ref l, w, rfl, ?_⟩
      have eq1 : ∀ a o, cut (fun a => Mk M0 ow a ∨ a = l) H1 a = some o → cut (fun a => Mk M0 ow a ∨ a = l) H2 a = some o := cut_ex e2
      have g2 := (g.ownNew hl (e1.trans e2) (e2 _ _ h1) (hd.mono eq1)).setA i l
      refine (k l).at_ (g2.setD (i := j) (hw2.mono fun a' o h => ?_)) (Rel.ownNew hl (e1.trans e2)) hn hr
      obtain ⟨n, h⟩ := cut_some.mp h
      refine cut_of (fun z => n ?_) h
      rcases z with z | z
      · exact .inl (.inl z)
      · rw [List.map_cons] at z
        rcases List.mem_cons.mp z with z | z
        · exact .inl (.inr z)
        · exact .inr z⟩
/-- .. the second a new list that is owned -/
theorem r_parL2 {px py pt pt2 : Pos} {kt k2 : Nat} (hi : S.N[i]? = some x) (hj : S.N[j]? = some y) (hij : i ≠ j) (hx : S.sc.names.lookup x = some .local) (hy : S.sc.names.lookup y = some .local) (ha : B S ss ow a d1) (hb : BL S ss ow b ds)
    (hw : ∀ env : Env, env.scope = S.sc → swappedStores [.Tuple [.Name x px, .Name y py] kt pt] (.Tuple [a, b] k2 pt2) env = pure (some [x, y])) (hs : ∀ env : Env, env.scope = S.sc → swapsWithSole [.Tuple [.Name x px, .Name y py] kt pt] (.Tuple [a, b] k2 pt2) pos.line env = pure false)
    (he : ∀ env : Env, starEach [a, b] env = (false, eval a env) :: starEach [b] env) (he2 : ∀ env : Env, starEach [b] env = (false, eval b env) :: starEach [] env)
    (k : ∀ l, R S ((ss.set i (.dat d1)).set j (.adr l)) ((l, ds) :: ow) rest nx rt) : R S ss ow (.Assign [.Tuple [.Name x px, .Name y py] kt pt] (.Tuple [a, b] k2 pt2) pos :: rest) nx rt :=
  fun M0 σ H g D hn hr => tSs_cons ⟨tPar i j (tCons (tE S a) (tCons (tE S b) tNil)), fun X F => ps_parS F hi hj hij hx hy (pa_cons (pe_tE F) (pa_cons (pe_tE F) pa_nil (he2 _)) (he _)) hw hs,
    ha.run M0 σ H g _ fun v H1 e1 hv => hb.run M0 σ H1 (g.ex e1) _ fun l vs H2 hl e2 h2 hd => by
      have g1 : Hds S.K M0 (ss.set i (.dat d1)) ow (σ.set i (some v)) H1 := (g.ex e1).setD hv
      exact ⟨v, .ref l, rfl, (k l).at_ ((g1.ownNew hl e2 h2 hd).setA j l) ((Rel.of_ex e1).trans (Rel.ownNew hl e2)) hn hr⟩⟩
/-- an owned list becomes plain data -/
theorem r_free {l : Addr} (hl : ss[i]? = some (.adr l)) (k : R S (ss.set i (.dat (.list ds))) ow sts nx rt) : R S ss ((l, ds) :: ow) sts nx rt := fun M0 σ H g D hn hr => by
  have nl : ¬ Mk M0 ow l := fun z => by
    rcases z with z | z
    · exact g.dj _ List.mem_cons_self z
    · have := g.nd
      rw [List.map_cons, List.nodup_cons] at this
      exact this.1 z
  have hm : ∀ a o, cut (Mk M0 ((l, ds) :: ow)) H a = some o → cut (Mk M0 ow) H a = some o := fun a o h => by
    obtain ⟨n, h⟩ := cut_some.mp h
    refine cut_of (fun z => n ?_) h
    rcases z with z | z
    · exact .inl z
    · exact .inr (by rw [List.map_cons]; exact List.mem_cons_of_mem _ z)
  have g2 : Hds S.K M0 (ss.set i (.dat (.list ds))) ow σ H := by
    refine ⟨g.m0, fun p hp => g.dj p (List.mem_cons_of_mem _ hp), ?_, fun p hp => ?_, by rw [List.length_set]; exact g.len, fun j s hs => ?_⟩
    · have := g.nd
      rw [List.map_cons, List.nodup_cons] at this
      exact this.2
    · obtain ⟨vs, q1, q2⟩ := g.own p (List.mem_cons_of_mem _ hp)
      exact ⟨vs, q1, q2.mono hm⟩
    · by_cases hj : i = j
      · subst hj
        have hi : i < ss.length := (List.getElem?_eq_some_iff.mp hl).1
        rw [List.getElem?_set_self hi] at hs
        cases hs
        obtain ⟨vs, q1, q2⟩ := g.own _ List.mem_cons_self
        exact ⟨_, g.adr hl, _, rfl, .lst (.inl (.inl (cut_of nl q1))) (q2.mono hm)⟩
      · rw [List.getElem?_set_ne hj] at hs
        obtain ⟨o, q1, q2⟩ := g.sl j s hs
        exact ⟨o, q1, q2.mono hm⟩
  have hr' : ∀ {ow2 : Ow} {H2 : Hp}, Rel ow H ow2 H2 → Rel ((l, ds) :: ow) H ow2 H2 := fun r => ⟨fun a o h n => r.1 a o h fun z => n (by rw [List.map_cons]; exact List.mem_cons_of_mem _ z), fun p hp => by
    rcases r.2 p hp with q | q
    · exact .inl (by rw [List.map_cons]; exact List.mem_cons_of_mem _ q)
    · exact .inr q⟩
  exact k M0 σ H g2 D (fun ss' ow' σ' H' n g' r' => hn ss' ow' σ' H' n g' (hr' r')) fun d ow' ss' σ' v H' n g' r' hd => hr d ow' ss' σ' v H' n g' (hr' r') hd
theorem r_ret (he : B S ss ow e d) (h : rt d ow) : R S ss ow (.Return (some e) pos :: rest) nx rt := fun M0 σ H g D hn hr =>
  tSs_cons ⟨tRet (tE S e), fun X F => ps_ret (pe_tE F), he.run M0 σ H g _ fun v H1 e1 hv => hr d ow ss σ v H1 h (g.ex e1) (Rel.of_ex e1) hv⟩
theorem r_if {body els : List Stmt} (hc : BT S ss ow c t) (h1 : t = true → R S ss ow body (fun ss' ow' => R S ss' ow' rest nx rt) rt) (h2 : t = false → R S ss ow els (fun ss' ow' => R S ss' ow' rest nx rt) rt) : R S ss ow (.If c body els pos :: rest) nx rt := fun M0 σ H g D hn hr =>
  tSs_cons ⟨tIfS (tT S c) (tSs S body) (tSs S els), fun X F => ps_if (pt_tT F) (pss_tSs F) (pss_tSs F), hc.run M0 σ H g _ fun H1 e1 => by
    have r1 : Rel ow H ow H1 := Rel.of_ex e1
    cases t with
    | true =>
      show tSs S body _ σ H1
      exact (h1 rfl).at_ (g.ex e1) r1 (fun ss' ow' σ' H' n g' r' => n.at_ g' r' hn hr) hr
    | false =>
      show tSs S els _ σ H1
      exact (h2 rfl).at_ (g.ex e1) r1 (fun ss' ow' σ' H' n g' r' => n.at_ g' r' hn hr) hr⟩
theorem r_while {body : List Stmt} (Iv : Nat → List SS → Ow → Prop) (m0 : Nat) (h0 : Iv m0 ss ow)
    (turn : ∀ m ss' ow', Iv m ss' ow' → ∃ b, BT S ss' ow' c b ∧ (b = true → R S ss' ow' body (fun s o => ∃ m', m' < m ∧ Iv m' s o) rt) ∧ (b = false → R S ss' ow' rest nx rt)) : R S ss ow (.While c body [] pos :: rest) nx rt := fun M0 σ H g D hn hr =>
  tSs_cons ⟨tWhile (tT S c) (tSs S body), fun X F => ps_while (by rw [F.xe]; exact PassesOwn.never) (pt_tT F) (pss_tSs F),
    fun m σ' H' => ∃ ss' ow', Iv m ss' ow' ∧ Hds S.K M0 ss' ow' σ' H' ∧ Rel ow H ow' H', ⟨m0, ss, ow, h0, g, Rel.refl ow H⟩, fun m σ' H' hW => by
      obtain ⟨ss', ow', hI, g', r'⟩ := hW
      obtain ⟨b, hb, h1, h2⟩ := turn m ss' ow' hI
      refine hb.run M0 σ' H' g' _ fun H1 e1 => ?_
      have r1 : Rel ow H ow' H1 := r'.trans (Rel.of_ex e1)
      cases b with
      | true =>
        refine ⟨fun σ2 H2 => ∃ m', m' < m ∧ ∃ ss2 ow2, Iv m' ss2 ow2 ∧ Hds S.K M0 ss2 ow2 σ2 H2 ∧ Rel ow H ow2 H2, fun σ2 H2 hN => hN, ?_⟩
        exact (h1 rfl).at_ (g'.ex e1) r1 (fun ss2 ow2 σ2 H2 n g2 r2 => let ⟨m', hm, hI'⟩ := n; ⟨m', hm, ss2, ow2, hI', g2, r2⟩) hr
      | false =>
        show tSs S rest D σ' H1
        exact (h2 rfl).at_ (g'.ex e1) r1 hn hr⟩
theorem r_for {α : Type} {tg iter : Expr} {body : List Stmt} {as : List α} {g : α → PyData} (hi : BI S ss ow tg iter (as.map g)) (Iv : Nat → List SS → Ow → Prop) (h0 : Iv 0 ss ow) (hk : ∀ i ss' ow', Iv i ss' ow' → ow'.map (·.1) = ow.map (·.1))
    (turn : ∀ (i : Nat) (a : α) ss' ow', as[i]? = some a → Iv i ss' ow' → ∃ ss2 js, BG S tg (g a) ss' ss2 js ∧ R S ss2 ow' body (Iv (i + 1)) rt) (hend : ∀ ss' ow', Iv as.length ss' ow' → R S ss' ow' rest nx rt)
    (hs : ∀ (env : Env) x, foldedSetIterable iter env x = pure x) : R S ss ow (.For tg iter body [] pos :: rest) nx rt := fun M0 σ H gd D hn hr =>
  tSs_cons ⟨tFor (tI S tg iter) (tG S tg) (tSs S body), fun X F => ps_for (by rw [F.xe]; exact PassesOwn.never) F.calm (pi_tI F) (pg_tG F) (pss_tSs F) (hs _), hi.run M0 σ H gd _ fun J H1 e1 hw => by
    have g1 := gd.ex e1
    refine ⟨fun i m σ' H' => ∃ ss' ow', m = as.length - i ∧ i ≤ as.length ∧ Iv i ss' ow' ∧ Hds S.K M0 ss' ow' σ' H' ∧ Rel ow H1 ow' H', ⟨as.length, ss, ow, by simp, Nat.zero_le _, h0, g1, Rel.refl ow H1⟩, fun i m σ' H' hW => ?_⟩
    obtain ⟨ss', ow', rfl, hile, hI, g', r'⟩ := hW
    have hmk : ∀ a, Mk M0 ow' a → Mk M0 ow a := fun a h => by
      unfold Mk at h ⊢
      rwa [hk i ss' ow' hI] at h
    have ex0 : Ex (cut (Mk M0 ow) H1) H' := fun a o h => by
      obtain ⟨n, h⟩ := cut_some.mp h
      exact r'.1 a o h fun z => n (.inr z)
    have r0 : Rel ow H ow' H' := (Rel.of_ex e1).trans r'
    obtain ⟨wgo, wstop⟩ := hw i H' ex0
    by_cases hlt : i < as.length
    · obtain ⟨go, yl⟩ := wgo (g as[i]) (by rw [List.getElem?_map, List.getElem?_eq_getElem hlt]; rfl)
      refine .inr ⟨go, fun σ2 H2 => ∃ ss2 ow2, Iv (i + 1) ss2 ow2 ∧ Hds S.K M0 ss2 ow2 σ2 H2 ∧ Rel ow H1 ow2 H2, fun σ2 H2 ⟨ss2, ow2, q1, q2, q3⟩ => ⟨as.length - (i + 1), by omega, ss2, ow2, rfl, hlt, q1, q2, q3⟩, fun x H2 hy => ?_⟩
      obtain ⟨ex2, hx⟩ := yl x H2 hy
      have hxd : Dp S.K (cut (Mk M0 ow') H2) x (g as[i]) := hx _ g'.mk_dom fun a o h z => (cut_some.mp h).1 (hmk a z)
      obtain ⟨ss2, js, hbg, hR⟩ := turn i as[i] ss' ow' (List.getElem?_eq_getElem hlt) hI
      refine hbg.run M0 ow' σ' H2 x (g'.ex ex2) hxd _ fun σ2 g2 _ => ?_
      have r2 : Rel ow H1 ow' H2 := r'.trans (Rel.of_ex ex2)
      refine hR M0 σ2 H2 g2 _ (fun ss3 ow3 σ3 H3 n g3 r3 => ⟨ss3, ow3, n, g3, r2.trans r3⟩) fun d ow3 ss3 σ3 v H3 n g3 r3 hd => hr d ow3 ss3 σ3 v H3 n g3 (((Rel.of_ex e1).trans r2).trans r3) hd
    · have ei : i = as.length := by omega
      subst ei
      exact .inl ⟨wstop (by rw [List.getElem?_eq_none_iff, List.length_map]; exact Nat.le_refl _), (hend ss' ow' hI).at_ g' r0 hn hr⟩⟩
/-- a statement that drops a value: f(..) -/
theorem r_drop (he : B S ss ow e d) (hs : ∀ env : Env, env.scope = S.sc → swapsWith e none pos.line env = pure false) (k : R S ss ow rest nx rt) : R S ss ow (.Expr e pos :: rest) nx rt := fun M0 σ H g D hn hr =>
  tSs_cons ⟨tDrop (tE S e), fun X F => ps_expr (pe_tE F) (hs _ F.sc), he.run M0 σ H g _ fun v H1 e1 hv => k.at_ (g.ex e1) (Rel.of_ex e1) hn hr⟩
theorem r_pass : R S ss ow rest nx rt → R S ss ow (.Pass pos :: rest) nx rt := fun k M0 σ H g D hn hr =>
  tSs_cons ⟨tNext, fun X F => ps_pass, k.at_ g (Rel.refl ow H) hn hr⟩
end
end Mf
end

-- text W6
section
set_option Elab.async false
set_option linter.all false
set_option autoImplicit false
set_option maxRecDepth 100000
/-! W6: owned lists written, effects on an owned list through calls, a def's promise from its body. -/
namespace Mf
open PySem PySem.Spec PyProof.Rows L2 Evl

/-! ### a def's promise from its body -/
@[reducible] def stc (P : Program) (w : World) (K : PySem.W.Frag) (mg : Str → Option Value) (base : Heap) (N : List Str) (st : Stmt) (k : Nat) : Stc := ⟨P, w, K, mg, base, N, defScope st, k, true⟩
structure Bas (P : Program) (mg : Str → Option Value) (base : Heap) : Prop where
  b0 : Blt mg
  seer : base.NoSeer
  tree : P.given.tree = none
section
variable {P : Program} {w : World} {K : PySem.W.Frag} {mg : Str → Option Value} {base : Heap}
theorem start_hds {N : List Str} {M : Addr → Prop} {vs : List V} {ds : List PyData} {H : Hp} (hM : ∀ a, M a → H a ≠ none) (hd : DpAll K (cut M H) vs ds) (hl : vs.length ≤ N.length) :
    Hds K M (ds.map SS.dat ++ List.replicate (N.length - ds.length) SS.any) [] (L2.start N vs) H := by
  have hlen := hd.length
  have hm : ∀ a o, cut M H a = some o → cut (Mk M []) H a = some o := fun a o h => by
    obtain ⟨n, h⟩ := cut_some.mp h
    exact cut_of (fun z => z.elim n fun z => nomatch z) h
  refine ⟨hM, fun p hp => (nomatch hp), List.nodup_nil, fun p hp => (nomatch hp), ?_, fun i s hs => ?_⟩
  · unfold L2.start
    rw [List.length_append, List.length_append, List.length_map, List.length_map, List.length_replicate, List.length_replicate, hlen]
  · unfold L2.start
    by_cases hi : i < ds.length
    · rw [List.getElem?_append_left (by rw [List.length_map]; exact hi), List.getElem?_map, List.getElem?_eq_getElem hi] at hs
      cases hs
      obtain ⟨v, hv, hvd⟩ := hd.get (List.getElem?_eq_getElem hi)
      exact ⟨some v, by rw [List.getElem?_append_left (by rw [List.length_map, hlen]; exact hi), List.getElem?_map, hv]; rfl, v, rfl, hvd.mono hm⟩
    · have h2 : s = .any := by
        rw [List.getElem?_append_right (by rw [List.length_map]; omega), List.getElem?_replicate] at hs
        split at hs
        · exact (Option.some.inj hs).symm
        · cases hs
      have h3 : i < N.length := by
        have := (List.getElem?_eq_some_iff.mp hs).1
        rw [List.length_append, List.length_map, List.length_replicate] at this
        omega
      subst h2
      refine ⟨none, ?_, trivial⟩
      rw [List.getElem?_append_right (by rw [List.length_map, hlen]; omega), List.getElem?_replicate, if_pos (by rw [List.length_map, hlen]; omega)]
theorem fits_def {x qual : Str} {st : Stmt} {f : Addr} {N ps : List Str} {k : Nat} (Sc : FnScope N ps (defScope st)) (ba : Bas P mg base) (h32 : 32 ≤ k) {cdv : Value} {A : Around} {outer : List Env} {s : Shared} {H : Hp} {E : XK}
    (hr : Room k (A.deeper (envOfC qual (defScope st) s.heap.objs.size f cdv))) : Fits (stc P w K mg base N st k) (cxOf CX0 P w K mg base N qual (defScope st) f cdv A outer s H E).nox where
  prog := rfl
  w := rfl
  K := rfl
  mg := rfl
  base := rfl
  N := rfl
  sc := rfl
  room := hr
  k32 := h32
  calm := rfl
  xe := rfl
  stk := ⟨_, _, rfl, Sc.gen, Sc.co, rfl, rfl⟩
  fn := fun _ => rfl
  nd := Sc.nd
  blt := ba.b0
  seer := ba.seer
  tree := ba.tree
theorem fn_RA {x qual : Str} {st : Stmt} {f : Addr} {fd : FuncData} {N ps : List Str} {k n : Nat} {Rl : List PyData → PyData → Prop} (F : Fun K x qual st f fd) (Sc : FnScope N ps (defScope st)) (ba : Bas P mg base) (h32 : 32 ≤ k) (hn : ps.length = n)
    (body : ∀ ds d, Rl ds d → ds.length = n → R (stc P w K mg base N st k) (ds.map SS.dat ++ List.replicate (N.length - n) SS.any) [] (defBody st) (fun _ _ => d = .none) (fun d' _ => d' = d)) : FnOk P w K mg base CX0 (k + 1) f fd ps (spR K n Rl) := by
  refine F.ok Sc (fun vs H Q E h => h.1.trans hn.symm) fun cdv A outer s H vs Q E hr h => ?_
  obtain ⟨hlen, M, ds, d, hM, hd, hR, q⟩ := h
  have Ft := fits_def (w := w) (K := K) (H := H) (E := E) (outer := outer) (x := x) Sc ba h32 hr
  have hps : ps.length ≤ N.length := by
    have h1 := congrArg List.length Sc.pre
    rw [List.length_take] at h1
    omega
  have hdl : ds.length = n := by rw [← hd.length]; exact hlen
  refine ⟨tSs (stc P w K mg base N st k) (defBody st), pss_tSs Ft, ?_⟩
  have g := start_hds (N := N) hM hd (by omega)
  rw [hdl] at g
  refine body ds d hR hdl M _ H g _ (fun ss' ow' σ' H' hx g' r' => ?_) fun d' ow' ss' σ' v H' hx g' r' hv => ?_
  · have e1 : Ex H H' := fun a o h => r'.1 a o h fun z => nomatch z
    refine q .non H' e1 ?_
    rw [hx]
    exact .non
  · have e1 : Ex H H' := fun a o h => r'.1 a o h fun z => nomatch z
    subst hx
    refine q v H' e1 (hv.mono fun a o h => ?_)
    obtain ⟨nm, h⟩ := cut_some.mp h
    exact cut_of (fun z => nm (.inl z)) h
theorem fn_R {x qual : Str} {st : Stmt} {f : Addr} {fd : FuncData} {N ps : List Str} {k n : Nat} {Rl : List PyData → PyData → Prop} (F : Fun K x qual st f fd) (Sc : FnScope N ps (defScope st)) (hg : mg x = some (.ref f)) (hb : Binds K fd ps []) (ba : Bas P mg base) (h32 : 32 ≤ k) (hn : ps.length = n)
    (body : ∀ ds d, Rl ds d → ds.length = n → R (stc P w K mg base N st k) (ds.map SS.dat ++ List.replicate (N.length - n) SS.any) [] (defBody st) (fun _ _ => d = .none) (fun d' _ => d' = d)) : Def P w K mg base x ps (k + 1) (spR K n Rl) :=
  ⟨f, fd, fn_RA F Sc ba h32 hn body, hg, F.kp, hb⟩
end

/-! ### names by their place -/
inductive Ix : List Str → Nat → Str → Prop where
  | here {x : Str} {l : List Str} : Ix (x :: l) 0 x
  | there {x y : Str} {l : List Str} {i : Nat} : Ix l i x → Ix (y :: l) (i + 1) x
theorem Ix.get {l : List Str} {i : Nat} {x : Str} (h : Ix l i x) : l[i]? = some x := by
  induction h with
  | here => rfl
  | there _ ih => exact ih
def visB (sc : Scope) (x : Str) : Bool := match sc.names.lookup x with
  | some .local => true
  | some .cell => true
  | some .free => true
  | _ => false
theorem vis_of {sc : Scope} {x : Str} (h : visB sc x = true) : Vis sc x := by
  unfold visB at h
  unfold Vis
  split at h
  · exact .inl (by assumption)
  · exact .inr (.inl (by assumption))
  · exact .inr (.inr (by assumption))
  · cases h
def locB (S : Stc) (x : Str) : Bool := match S.sc.names.lookup x with
  | some .local => true
  | some .cell => S.own
  | _ => false
theorem loc_of {S : Stc} {x : Str} (h : locB S x = true) : LocS S x := by
  unfold locB at h
  split at h
  · exact ⟨.inl (by assumption), .inr (by assumption)⟩
  · exact ⟨.inr (by assumption), .inl h⟩
  · cases h
def okN (x : Str) : Bool := !(x == ("__debug__" : Str)) && !(x == ("__classdict__" : Str))
theorem okN_1 {x : Str} (h : okN x = true) : (x == ("__debug__" : Str)) = false := by
  unfold okN at h
  simp only [Bool.and_eq_true, Bool.not_eq_true'] at h
  exact h.1
theorem okN_2 {x : Str} (h : okN x = true) : (x == ("__classdict__" : Str)) = false := by
  unfold okN at h
  simp only [Bool.and_eq_true, Bool.not_eq_true'] at h
  exact h.2
theorem b_vi {S : Stc} {ss : List SS} {ow : Ow} {d : PyData} {pos : Pos} {x : Str} {i : Nat} (hi : Ix S.N i x) (h : ss[i]? = some (.dat d)) (hv : visB S.sc x = true) (hd : okN x = true) : B S ss ow (.Name x pos) d := b_var h hi.get (vis_of hv) (okN_1 hd) (okN_2 hd)

theorem b_callI {S : Stc} {ss : List SS} {ow : Ow} {e : Expr} {es : List Expr} {d : PyData} {ds : List PyData} {pos p : Pos} {x : Str} {ps : List Str} {k nn : Nat} {Rl : List PyData → PyData → Prop} (D : Def S.P S.w S.K S.mg S.base x ps k (spR S.K nn Rl)) (hk : k ≤ S.k) (hg : IsG S x) (ha : BA S ss ow (e :: es) ds) (hr : Rl ds d) (hn : ds.length = nn)
    (he : ∀ env : Env, starEach (e :: es) env = (false, eval e env) :: starEach es env) (hpl : ∀ env : Env, (backTo pos (starEach es env)).any (·.1) = false) (hdb : okN x = true) : B S ss ow (.Call (.Name x p) (e :: es) [] pos) d := b_call D hk hg ha hr hn he hpl (okN_1 hdb)

/-! ### owned lists written -/
section
variable {S : Stc} {ss : List SS} {ow : Ow} {e a b c : Expr} {st : Stmt} {sts rest : List Stmt} {nx : List SS → Ow → Prop} {rt : PyData → Ow → Prop} {d d1 d2 : PyData} {ds ds' : List PyData} {pos p p' : Pos} {x y : Str} {i j : Nat} {t : Bool} {l : Addr} {n : Int}
theorem mk_head {M0 : Addr → Prop} {zs : List PyData} : Mk M0 ((l, ds) :: ow) = Mk M0 ((l, zs) :: ow) := by
  funext z
  unfold Mk
  rw [List.map_cons, List.map_cons]
/-- the head of the owned lists is written -/
theorem Hds.write {K : PySem.W.Frag} {M0 : Addr → Prop} {σ : L2.St} {H : Hp} {vs : List V} (g : Hds K M0 ss ((l, ds) :: ow) σ H) (hv : DpAll K (cut (Mk M0 ((l, ds) :: ow)) H) vs ds') : Hds K M0 ss ((l, ds') :: ow) σ (upd H l (.lst vs)) := by
  have hmk : Mk M0 ((l, ds) :: ow) = Mk M0 ((l, ds') :: ow) := mk_head
  have hml : Mk M0 ((l, ds) :: ow) l := .inr (by rw [List.map_cons]; exact List.mem_cons_self)
  have hc : ∀ c o, cut (Mk M0 ((l, ds) :: ow)) H c = some o → cut (Mk M0 ((l, ds') :: ow)) (upd H l (.lst vs)) c = some o := fun c o h => by
    rw [← hmk]
    exact cut_upd hml c o h
  refine ⟨fun c h => ?_, fun p hp => ?_, ?_, fun p hp => ?_, g.len, fun i s hs => ?_⟩
  · by_cases hcl : c = l
    · rw [hcl, upd_same]; exact fun z => nomatch z
    · rw [upd_ne hcl]; exact g.m0 c h
  · rcases List.mem_cons.mp hp with rfl | hp
    · exact g.dj (l, ds) List.mem_cons_self
    · exact g.dj p (List.mem_cons_of_mem _ hp)
  · have := g.nd
    rw [List.map_cons] at this ⊢
    exact this
  · rcases List.mem_cons.mp hp with rfl | hp
    · exact ⟨vs, upd_same, hv.mono hc⟩
    · obtain ⟨ws, q1, q2⟩ := g.own p (List.mem_cons_of_mem _ hp)
      have hpl : p.1 ≠ l := fun z => by
        have := g.nd
        rw [List.map_cons, List.nodup_cons] at this
        have h2 : l ∉ ow.map (·.1) := this.1
        have h3 : p.1 ∈ ow.map (·.1) := List.mem_map_of_mem hp
        rw [z] at h3
        exact h2 h3
      exact ⟨ws, by rw [upd_ne hpl]; exact q1, q2.mono hc⟩
  · obtain ⟨o, q1, q2⟩ := g.sl i s hs
    exact ⟨o, q1, q2.mono hc⟩
theorem Rel.write {H : Hp} {o : HO} : Rel ((l, ds) :: ow) H ((l, ds') :: ow) (upd H l o) := ⟨fun a u h n => by
  rw [upd_ne (fun z => n (by rw [z, List.map_cons]; exact List.mem_cons_self))]
  exact h, fun p hp => .inl (by
    have e : ((l, ds') :: ow).map (fun z => z.1) = ((l, ds) :: ow).map (fun z => z.1) := rfl
    rw [← e]
    exact List.mem_map_of_mem hp)⟩
theorem pe_slot {X : Cx} (F : Fits S X) (hi : S.N[i]? = some x) (hv : Vis S.sc x) (hd : (x == ("__debug__" : Str)) = false := by decide) (hcd : (x == ("__classdict__" : Str)) = false := by decide) : PE X (.Name x p) (tVar i) :=
  pe_var (by rw [F.N]; exact hi) (by rw [F.sc]; exact hv) hd hcd
/-- x[k] = e -/
theorem r_setO (hl : ss[i]? = some (.adr l)) (hi : S.N[i]? = some x) (hv : Vis S.sc x) (he : B S ss ((l, ds) :: ow) e d) (hb : B S ss ((l, ds) :: ow) b (.int n)) (hj : ixN ds.length n = some j)
    (ha : ∀ (env : Env) v, assign (.Subscript (.Name x p) b p') env v = (do
      let ov ← holding [v] (eval (.Name x p) env)
      let iv ← holding [v, ov] (eval b env)
      standAt p'
      holding [v, ov, iv] (setItem ov iv v)
      release [v, ov, iv] []))
    (hs : ∀ env : Env, env.scope = S.sc → swapsWithSole [.Subscript (.Name x p) b p'] e pos.line env = pure false) (hw : ∀ env : Env, env.scope = S.sc → swappedStores [.Subscript (.Name x p) b p'] e env = pure none) (h1 : ∀ env : Env, (assignEach [.Subscript (.Name x p) b p'] env).map (·.2) = [assign (.Subscript (.Name x p) b p') env])
    (k : R S ss ((l, ds.set j d) :: ow) rest nx rt) (hd : (x == ("__debug__" : Str)) = false := by decide) (hcd : (x == ("__classdict__" : Str)) = false := by decide) : R S ss ((l, ds) :: ow) (.Assign [.Subscript (.Name x p) b p'] e pos :: rest) nx rt := fun M0 σ H g D hn hr =>
  tSs_cons ⟨tAsg (tE S e) (gSub (tVar i) (tE S b) rSetL), fun X F => ps_asg (pe_tE F) (pg_sub (pe_slot F hi hv hd hcd) (pe_tE F) set_list (ha _)) (hs _ F.sc) (hw _ F.sc) (h1 _), he.run M0 σ H g _ fun v H1 e1 hvd => by
    have g1 := g.ex e1
    refine ⟨.ref l, g1.adr hl, hb.run M0 σ H1 g1 _ fun y H2 e2 hy => ?_⟩
    cases hy
    have g2 := g1.ex e2
    obtain ⟨vs, q1, q2⟩ := g2.own _ List.mem_cons_self
    refine ⟨l, vs, n, j, rfl, rfl, q1, by rw [q2.length]; exact hj, ?_⟩
    exact k.at_ (g2.write (q2.set (hvd.mono (cut_ex e2)) j)) ((Rel.of_ex (e1.trans e2)).trans Rel.write) hn hr⟩
/-- x.pop() -/
theorem r_popO {apos : Pos} (hl : ss[i]? = some (.adr l)) (hi : S.N[i]? = some x) (hv : Vis S.sc x) (hne : ds ≠ []) (hbase : ∀ env : Env, attributeBase (.Name x p) "pop" env (eval (.Name x p) env) = eval (.Name x p) env) (hline : (apos.endLine == p'.line) = true)
    (hs : ∀ env : Env, env.scope = S.sc → swapsWith (.Call (.Attribute (.Name x p) "pop" apos) [] [] p') none pos.line env = pure false)
    (k : R S ss ((l, ds.dropLast) :: ow) rest nx rt) (hd : (x == ("__debug__" : Str)) = false := by decide) (hcd : (x == ("__classdict__" : Str)) = false := by decide) : R S ss ((l, ds) :: ow) (.Expr (.Call (.Attribute (.Name x p) "pop" apos) [] [] p') pos :: rest) nx rt := fun M0 σ H g D hn hr =>
  tSs_cons ⟨tDrop (tBM0 S.K "list" rPop (tVar i)), fun X F => ps_expr (by have h := pe_bm0 (X := X) (cpos := p') PySem.F.plainAttrs_list PySem.F.slot_list_pop PySem.F.type_list_pop mt_pop (pe_slot (p := p) F hi hv hd hcd) (hbase _) hline; rwa [F.K] at h) (hs _ F.sc),
    .ref l, g.adr hl, by
      obtain ⟨vs, q1, q2⟩ := g.own _ List.mem_cons_self
      refine ⟨.inl ⟨rfl, vs, .inl (.inl q1)⟩, ?_⟩
      have hlen := q2.length
      have hpos : 0 < ds.length := by
        cases ds with
        | nil => exact absurd rfl hne
        | cons _ _ => simp
      refine ⟨l, vs, vs[vs.length - 1]'(by simp only at hlen; omega), rfl, rfl, q1, List.getElem?_eq_getElem _, ?_⟩
      exact k.at_ (g.write q2.dropLast) Rel.write hn hr⟩
/-- x.append(e) -/
theorem r_appO {apos : Pos} (hl : ss[i]? = some (.adr l)) (hi : S.N[i]? = some x) (hv : Vis S.sc x) (he : B S ss ((l, ds) :: ow) e d) (hsz : ds.length < 100000) (hbase : ∀ env : Env, attributeBase (.Name x p) "append" env (eval (.Name x p) env) = eval (.Name x p) env) (hline : (apos.endLine == p'.line) = true)
    (hst : ∀ env : Env, starEach [e] env = (false, eval e env) :: starEach [] env) (hs : ∀ env : Env, env.scope = S.sc → swapsWith (.Call (.Attribute (.Name x p) "append" apos) [e] [] p') none pos.line env = pure false)
    (k : R S ss ((l, ds ++ [d]) :: ow) rest nx rt) (hd : (x == ("__debug__" : Str)) = false := by decide) (hcd : (x == ("__classdict__" : Str)) = false := by decide) : R S ss ((l, ds) :: ow) (.Expr (.Call (.Attribute (.Name x p) "append" apos) [e] [] p') pos :: rest) nx rt := fun M0 σ H g D hn hr =>
  tSs_cons ⟨tDrop (tBM S.K "list" rAppend (tVar i) (tA S [e])), fun X F => ps_expr (by have h := pe_bm (X := X) (cpos := p') PySem.F.plainAttrs_list PySem.F.slot_list_append PySem.F.type_list_append mt_append (pe_slot (p := p) F hi hv hd hcd) (pa_tA (es := [e]) F) (hbase _) (by rw [hst]; rfl) hline (hst _); rwa [F.K] at h) (hs _ F.sc),
    .ref l, g.adr hl, by
      obtain ⟨vs0, q10, q20⟩ := g.own _ List.mem_cons_self
      refine ⟨.inl ⟨rfl, vs0, .inl (.inl q10)⟩, (ba_cons he ba_nil hst).run M0 σ H g _ fun ws H1 e1 h1 => ?_⟩
      obtain ⟨v, rfl, hvd⟩ := one_of h1
      have g1 := g.ex e1
      obtain ⟨vs, q1, q2⟩ := g1.own _ List.mem_cons_self
      have hlen := q2.length
      refine ⟨l, vs, v, rfl, rfl, q1, sz_lt (by simp only at hlen; omega), ?_⟩
      exact k.at_ (g1.write (q2.append (.cons hvd .nil))) ((Rel.of_ex e1).trans Rel.write) hn hr⟩
end
end Mf
end

-- text T1
section
set_option Elab.async false
set_option linter.all false
set_option autoImplicit false
set_option maxRecDepth 100000
/-! T1: the defs of the linked text by place, their slots. -/
namespace Mf
open PySem PySem.Spec PyProof.Rows L2
def topS (i : Nat) : Stmt := PySem.Challenge.pw_mapflow_k44_whole_zeros_counted.main.body.getD i (.Pass ⟨0, 0, 0, 0⟩)
abbrev sIsInteger : Stmt := topS 6
theorem scIsInteger : FnScope ["value"] ["value"] (defScope sIsInteger) := ⟨rfl, rfl, rfl, by decide +kernel, rfl, by decide +kernel, by decide +kernel⟩
abbrev sIsWithin : Stmt := topS 7
theorem scIsWithin : FnScope ["value", "least", "most"] ["value", "least", "most"] (defScope sIsWithin) := ⟨rfl, rfl, rfl, by decide +kernel, rfl, by decide +kernel, by decide +kernel⟩
abbrev sIsFraction : Stmt := topS 8
theorem scIsFraction : FnScope ["value"] ["value"] (defScope sIsFraction) := ⟨rfl, rfl, rfl, by decide +kernel, rfl, by decide +kernel, by decide +kernel⟩
abbrev sCommon : Stmt := topS 11
theorem scCommon : FnScope ["one", "other"] ["one", "other"] (defScope sCommon) := ⟨rfl, rfl, rfl, by decide +kernel, rfl, by decide +kernel, by decide +kernel⟩
abbrev sReduced : Stmt := topS 12
theorem scReduced : FnScope ["up", "down", "by"] ["up", "down"] (defScope sReduced) := ⟨rfl, rfl, rfl, by decide +kernel, rfl, by decide +kernel, by decide +kernel⟩
abbrev sAsPair : Stmt := topS 13
theorem scAsPair : FnScope ["value"] ["value"] (defScope sAsPair) := ⟨rfl, rfl, rfl, by decide +kernel, rfl, by decide +kernel, by decide +kernel⟩
abbrev sPlus : Stmt := topS 14
theorem scPlus : FnScope ["one", "other"] ["one", "other"] (defScope sPlus) := ⟨rfl, rfl, rfl, by decide +kernel, rfl, by decide +kernel, by decide +kernel⟩
abbrev sMinus : Stmt := topS 15
theorem scMinus : FnScope ["one", "other"] ["one", "other"] (defScope sMinus) := ⟨rfl, rfl, rfl, by decide +kernel, rfl, by decide +kernel, by decide +kernel⟩
abbrev sTimes : Stmt := topS 16
theorem scTimes : FnScope ["one", "other"] ["one", "other"] (defScope sTimes) := ⟨rfl, rfl, rfl, by decide +kernel, rfl, by decide +kernel, by decide +kernel⟩
abbrev sOver : Stmt := topS 17
theorem scOver : FnScope ["one", "other", "up", "down"] ["one", "other"] (defScope sOver) := ⟨rfl, rfl, rfl, by decide +kernel, rfl, by decide +kernel, by decide +kernel⟩
abbrev sIsLess : Stmt := topS 18
theorem scIsLess : FnScope ["one", "other"] ["one", "other"] (defScope sIsLess) := ⟨rfl, rfl, rfl, by decide +kernel, rfl, by decide +kernel, by decide +kernel⟩
abbrev sNeedFraction : Stmt := topS 19
theorem scNeedFraction : FnScope ["value", "part"] ["value", "part"] (defScope sNeedFraction) := ⟨rfl, rfl, rfl, by decide +kernel, rfl, by decide +kernel, by decide +kernel⟩
abbrev sTrimmed : Stmt := topS 22
theorem scTrimmed : FnScope ["row", "many"] ["row"] (defScope sTrimmed) := ⟨rfl, rfl, rfl, by decide +kernel, rfl, by decide +kernel, by decide +kernel⟩
abbrev sWholeOf : Stmt := topS 23
theorem scWholeOf : FnScope ["poly", "down", "_", "its", "up"] ["poly"] (defScope sWholeOf) := ⟨rfl, rfl, rfl, by decide +kernel, rfl, by decide +kernel, by decide +kernel⟩
abbrev sPartedIn : Stmt := topS 24
theorem scPartedIn : FnScope ["one", "other", "rest", "quotient", "at", "by", "ends", "mine", "its"] ["one", "other"] (defScope sPartedIn) := ⟨rfl, rfl, rfl, by decide +kernel, rfl, by decide +kernel, by decide +kernel⟩
abbrev sSlopeIn : Stmt := topS 25
theorem scSlopeIn : FnScope ["poly", "at", "number"] ["poly"] (defScope sSlopeIn) := ⟨rfl, rfl, rfl, by decide +kernel, rfl, by decide +kernel, by decide +kernel⟩
abbrev sNeedPoly : Stmt := topS 26
theorem scNeedPoly : FnScope ["value", "part", "each"] ["value", "part"] (defScope sNeedPoly) := ⟨rfl, rfl, rfl, by decide +kernel, rfl, by decide +kernel, by decide +kernel⟩
abbrev sLessened : Stmt := topS 28
theorem scLessened : FnScope ["numbers", "by", "number"] ["numbers"] (defScope sLessened) := ⟨rfl, rfl, rfl, by decide +kernel, rfl, by decide +kernel, by decide +kernel⟩
abbrev sTurnedRest : Stmt := topS 29
theorem scTurnedRest : FnScope ["one", "other", "rest", "sign", "size", "at", "by", "ends", "mine", "its", "number"] ["one", "other"] (defScope sTurnedRest) := ⟨rfl, rfl, rfl, by decide +kernel, rfl, by decide +kernel, by decide +kernel⟩
abbrev sSignRow : Stmt := topS 30
theorem scSignRow : FnScope ["poly", "row", "later"] ["poly"] (defScope sSignRow) := ⟨rfl, rfl, rfl, by decide +kernel, rfl, by decide +kernel, by decide +kernel⟩
abbrev sCountingRow : Stmt := topS 31
theorem scCountingRow : FnScope ["poly", "row", "number"] ["poly"] (defScope sCountingRow) := ⟨rfl, rfl, rfl, by decide +kernel, rfl, by decide +kernel, by decide +kernel⟩
abbrev sSignAt : Stmt := topS 32
theorem scSignAt : FnScope ["numbers", "at", "found", "below", "number"] ["numbers", "at"] (defScope sSignAt) := ⟨rfl, rfl, rfl, by decide +kernel, rfl, by decide +kernel, by decide +kernel⟩
abbrev sChangesAt : Stmt := topS 33
theorem scChangesAt : FnScope ["row", "at", "signs", "sign", "numbers", "one", "other"] ["row", "at"] (defScope sChangesAt) := ⟨rfl, rfl, rfl, by decide +kernel, rfl, by decide +kernel, by decide +kernel⟩
abbrev sZerosBetween : Stmt := topS 34
theorem scZerosBetween : FnScope ["poly", "low", "high", "row"] ["poly", "low", "high"] (defScope sZerosBetween) := ⟨rfl, rfl, rfl, by decide +kernel, rfl, by decide +kernel, by decide +kernel⟩
abbrev sNeedStretch : Stmt := topS 35
theorem scNeedStretch : FnScope ["poly", "low", "high", "kept", "begin"] ["poly", "low", "high"] (defScope sNeedStretch) := ⟨rfl, rfl, rfl, by decide +kernel, rfl, by decide +kernel, by decide +kernel⟩
abbrev sNeedBelow : Stmt := topS 36
theorem scNeedBelow : FnScope ["low", "high"] ["low", "high"] (defScope sNeedBelow) := ⟨rfl, rfl, rfl, by decide +kernel, rfl, by decide +kernel, by decide +kernel⟩
abbrev sNeedSome : Stmt := topS 37
theorem scNeedSome : FnScope ["poly"] ["poly"] (defScope sNeedSome) := ⟨rfl, rfl, rfl, by decide +kernel, rfl, by decide +kernel, by decide +kernel⟩
abbrev sZerosIn : Stmt := topS 38
theorem scZerosIn : FnScope ["poly", "low", "high", "kept", "begin", "end"] ["poly", "low", "high"] (defScope sZerosIn) := ⟨rfl, rfl, rfl, by decide +kernel, rfl, by decide +kernel, by decide +kernel⟩
abbrev sLCounter : Stmt := topS 40
theorem scLCounter : FnScope ["_law_script", "_law_cell"] ["_law_script"] (defScope sLCounter) := ⟨rfl, rfl, rfl, by decide +kernel, rfl, by decide +kernel, by decide +kernel⟩
abbrev sLTallyUp : Stmt := topS 41
theorem scLTallyUp : FnScope ["_law_counter_here", "_law_many_here", "_law_left", "_law_turn", "_law_cell", "_law_mixed"] ["_law_counter_here", "_law_many_here"] (defScope sLTallyUp) := ⟨rfl, rfl, rfl, by decide +kernel, rfl, by decide +kernel, by decide +kernel⟩
abbrev sLPick : Stmt := topS 42
theorem scLPick : FnScope ["_law_counter_here", "_law_some"] ["_law_counter_here", "_law_some"] (defScope sLPick) := ⟨rfl, rfl, rfl, by decide +kernel, rfl, by decide +kernel, by decide +kernel⟩
abbrev sLLow : Stmt := topS 43
theorem scLLow : FnScope ["_law_up", "_law_down", "_law_one", "_law_other", "_law_part"] ["_law_up", "_law_down"] (defScope sLLow) := ⟨rfl, rfl, rfl, by decide +kernel, rfl, by decide +kernel, by decide +kernel⟩
abbrev sLPlus : Stmt := topS 44
theorem scLPlus : FnScope ["_law_one", "_law_other"] ["_law_one", "_law_other"] (defScope sLPlus) := ⟨rfl, rfl, rfl, by decide +kernel, rfl, by decide +kernel, by decide +kernel⟩
abbrev sLTimes : Stmt := topS 45
theorem scLTimes : FnScope ["_law_one", "_law_other"] ["_law_one", "_law_other"] (defScope sLTimes) := ⟨rfl, rfl, rfl, by decide +kernel, rfl, by decide +kernel, by decide +kernel⟩
abbrev sLAs : Stmt := topS 46
theorem scLAs : FnScope ["_law_counter_here", "_law_number", "_law_by"] ["_law_counter_here", "_law_number"] (defScope sLAs) := ⟨rfl, rfl, rfl, by decide +kernel, rfl, by decide +kernel, by decide +kernel⟩
abbrev sLTrimmed : Stmt := topS 47
theorem scLTrimmed : FnScope ["_law_row", "_law_many_here"] ["_law_row"] (defScope sLTrimmed) := ⟨rfl, rfl, rfl, by decide +kernel, rfl, by decide +kernel, by decide +kernel⟩
abbrev sLProduct : Stmt := topS 48
theorem scLProduct : FnScope ["_law_one", "_law_other", "_law_found", "_law_at", "_law_mine", "_law_spot", "_law_its"] ["_law_one", "_law_other"] (defScope sLProduct) := ⟨rfl, rfl, rfl, by decide +kernel, rfl, by decide +kernel, by decide +kernel⟩
abbrev sLZeros : Stmt := topS 49
theorem scLZeros : FnScope ["_law_counter_here", "_law_made", "_law_zeros_here", "_law_turn", "_law_zero", "_law_lap", "_law_square", "_law_pair"] ["_law_counter_here"] (defScope sLZeros) := ⟨rfl, rfl, rfl, by decide +kernel, rfl, by decide +kernel, by decide +kernel⟩
abbrev sLIsAbove : Stmt := topS 50
theorem scLIsAbove : FnScope ["_law_zero", "_law_bound", "_law_number", "_law_square"] ["_law_zero", "_law_bound"] (defScope sLIsAbove) := ⟨rfl, rfl, rfl, by decide +kernel, rfl, by decide +kernel, by decide +kernel⟩
abbrev sLMany : Stmt := topS 51
theorem scLMany : FnScope ["_law_zeros_here", "_law_low_here", "_law_high", "_law_zero"] ["_law_zeros_here", "_law_low_here", "_law_high"] (defScope sLMany) := ⟨rfl, rfl, rfl, by decide +kernel, rfl, by decide +kernel, by decide +kernel⟩
abbrev sLStretch : Stmt := topS 52
theorem scLStretch : FnScope ["_law_counter_here", "_law_zeros_here", "_law_ends", "_law_low_here", "_law_high", "_law_zero"] ["_law_counter_here", "_law_zeros_here"] (defScope sLStretch) := ⟨rfl, rfl, rfl, by decide +kernel, rfl, by decide +kernel, by decide +kernel⟩
abbrev sLaw : Stmt := topS 53
theorem scLaw : FnScope ["_law_script", "_law_counter_here", "_law_turn", "_law_made", "_law_zeros_here", "_law_low_here", "_law_high", "_law_passed", "_law_due", "_law_middle", "_law_more", "_law_zero", "_law_again", "_law_number", "_law_each"] ["_law_script"] (defScope sLaw) := ⟨rfl, rfl, rfl, by decide +kernel, rfl, by decide +kernel, by decide +kernel⟩
end Mf
end

-- text D1
section
set_option Elab.async false
set_option linter.all false
set_option autoImplicit false
set_option maxRecDepth 100000
set_option maxHeartbeats 200000
namespace Mf
open PySem PySem.Spec PyProof.Rows L2 Evl
local macro_rules | `(tactic| walk_at "ix") => `(tactic| first | (with_reducible exact .here) | (with_reducible apply Ix.there; walk_at "ix"))
local macro_rules | `(tactic| walk_at "loc") => `(tactic| (refine loc_of ?_; kernel_rfl))
local macro_rules | `(tactic| walk_at "hk") => `(tactic| exact Nat.le_of_ble_eq_true rfl)
local macro_rules | `(tactic| walk_at "rel") => `(tactic| first | exact ⟨_, rfl, rfl⟩ | exact ⟨_, _, rfl, rfl⟩ | exact ⟨_, _, _, rfl, rfl⟩ | exact ⟨_, rfl, by assumption, rfl⟩ | exact ⟨_, _, rfl, by assumption, rfl⟩ | exact ⟨_, _, rfl, by assumption, by assumption, rfl⟩)
local macro_rules | `(tactic| walk_at "sw") => `(tactic| (intro env h; first | rfl | (cases env; cases h; rfl)))
/-- an expression, its side questions -/
local macro_rules | `(tactic| walk_at "bb") => `(tactic| first
  | ((with_reducible apply b_vi) <;> first | ((with_reducible show Ix _ _ _); walk_at "ix") | ((with_reducible show visB _ _ = true); kernel_rfl) | ((with_reducible show okN _ = true); kernel_rfl) | rfl)
  | ((with_reducible apply b_int) <;> walk_at "bb")
  | ((with_reducible apply b_bool) <;> walk_at "bb")
  | ((with_reducible apply b_non) <;> walk_at "bb")
  | ((with_reducible apply b_str) <;> walk_at "bb")
  | ((with_reducible apply b_add) <;> walk_at "bb")
  | ((with_reducible apply b_sub) <;> walk_at "bb")
  | ((with_reducible apply b_mul) <;> walk_at "bb")
  | ((with_reducible apply b_mod) <;> walk_at "bb")
  | ((with_reducible apply b_fdiv) <;> walk_at "bb")
  | ((with_reducible apply b_neg) <;> walk_at "bb")
  | ((with_reducible apply b_pow) <;> walk_at "bb")
  | ((with_reducible apply b_tup) <;> walk_at "bb")
  | ((with_reducible apply b_ixT) <;> walk_at "bb")
  | ((with_reducible apply b_ixL) <;> walk_at "bb")
  | ((with_reducible apply b_abs) <;> walk_at "bb")
  | ((with_reducible apply b_lenT) <;> walk_at "bb")
  | ((with_reducible apply b_lenL) <;> walk_at "bb")
  | ((with_reducible apply b_max2) <;> walk_at "bb")
  | ((with_reducible apply b_intI) <;> walk_at "bb")
  | ((with_reducible apply b_intB) <;> walk_at "bb")
  | ((with_reducible apply b_tupleL) <;> walk_at "bb")
  | ((with_reducible apply b_all) <;> walk_at "bb")
  | ((with_reducible apply b_sum) <;> walk_at "bb")
  | ((with_reducible apply b_if) <;> walk_at "bb")
  | ((with_reducible apply b_and) <;> walk_at "bb")
  | ((with_reducible apply b_or) <;> walk_at "bb")
  | ((with_reducible apply b_not) <;> walk_at "bb")
  | ((with_reducible apply b_one) <;> walk_at "bb")
  | ((with_reducible apply b_cmp) <;> walk_at "bb")
  | ((with_reducible apply ba_nil) <;> walk_at "bb")
  | ((with_reducible apply ba_cons) <;> walk_at "bb")
  | ((with_reducible apply b_callI) <;> walk_at "bb")
  | ((with_reducible apply bt_cmp) <;> walk_at "bb")
  | ((with_reducible apply bt_not) <;> walk_at "bb")
  | ((with_reducible show IsG _ _); kernel_rfl)
  | ((with_reducible show okN _ = true); kernel_rfl)
  | (with_reducible assumption)
  | (with_reducible exact CmpD.gt _ _)
  | (with_reducible exact CmpD.lt _ _)
  | (with_reducible exact CmpD.ge _ _)
  | (with_reducible exact CmpD.le _ _)
  | (with_reducible exact CmpD.eqI _ _)
  | (with_reducible exact CmpD.neI _ _)
  | ((with_reducible show _ = _); rfl)
  | ((with_reducible show (_ : Nat) ≤ _); first | walk_at "hk" | decide)
  | (intro _; rfl)
  | (intro _ _; rfl)
  | walk_at "rel")
/-! ### data -/
@[reducible] def fr (q : Rat) : PyData := .tuple [.int q.num, .int q.den]
@[reducible] def pq (l : List Rat) : PyData := .tuple (l.map fr)
@[reducible] def il (l : List Int) : PyData := .list (l.map .int)
/-- a fraction as it may be told -/
inductive RepF : PyData → Rat → Prop where
  | int (n : Int) : RepF (.int n) (n : Rat)
  | tup (a b : Int) (h : 0 < b) : RepF (.tuple [.int a, .int b]) (Rat.divInt a b)
  | lst (a b : Int) (h : 0 < b) : RepF (.list [.int a, .int b]) (Rat.divInt a b)
def RS (n : Nat) (q : Rat) : Prop := q.num.natAbs < 2 ^ n ∧ q.den < 2 ^ n
/-- a size that two factors may have -/
def SI (x : Int) : Prop := ∃ n, n ≤ 67108864 ∧ x.natAbs < 2 ^ n
def SF (q : Rat) : Prop := SI q.num ∧ SI q.den
theorem RepF.fr (q : Rat) : RepF (Mf.fr q) q := by
  have h := RepF.tup q.num q.den (by have := q.den_pos; omega)
  rwa [Rat.num_divInt_den] at h
theorem intBits_of {x : Int} {n : Nat} (h : x.natAbs < 2 ^ n) : Builtin.Int.intBits x ≤ n := PyProof.Rows.intBits_le h
theorem mul_ok {x y : Int} {n m : Nat} (h : x.natAbs < 2 ^ n) (h2 : y.natAbs < 2 ^ m) (hnm : n + m ≤ 134217728) : IntMulOk x y := by
  refine CMulX.ok ?_
  have a := intBits_of h
  have b := intBits_of h2
  unfold CMulX
  omega
theorem SI.mul {x y : Int} (a : SI x) (b : SI y) : IntMulOk x y := by
  obtain ⟨n, h1, h2⟩ := a
  obtain ⟨m, h3, h4⟩ := b
  exact mul_ok h2 h4 (by omega)
theorem SI.neg {x : Int} (a : SI x) : SI (-x) := by
  obtain ⟨n, h1, h2⟩ := a
  exact ⟨n, h1, by rw [Int.natAbs_neg]; exact h2⟩
theorem divInt_parts (u d : Int) (h : 0 < d) : (Rat.divInt u d).num = u / (Int.gcd u d : Int) ∧ ((Rat.divInt u d).den : Int) = d / (Int.gcd u d : Int) := by
  have hd : d ≠ 0 := by omega
  rw [Rat.num_divInt, Rat.den_divInt, if_neg hd, Int.sign_eq_one_of_pos h, Int.one_mul]
  refine ⟨by rw [Int.gcd_comm], ?_⟩
  have e : d = (d.natAbs : Int) := by omega
  rw [Int.natCast_ediv, ← e, Int.gcd_comm]
section
variable {P : Program} {w : World} {K : PySem.W.Frag} {mg : Str → Option Value} {base : Heap}
def isSeqD : PyData → Bool
  | .list _ => true
  | .tuple _ => true
  | _ => false
def isIntD : PyData → Bool
  | .int _ => true
  | .bool _ => true
  | _ => false
def isBoolD : PyData → Bool
  | .bool _ => true
  | _ => false
section
variable {S : Stc} {ss : List SS} {ow : Ow} {e : Expr} {d : PyData} {p p1 p2 p3 pos : Pos} {kt : Nat}
theorem b_isInt (B0 : Blt S.mg) (he : ∀ env : Env, starEach [e, .Name "int" p] env = (false, eval e env) :: starEach [.Name "int" p] env) (hg : IsG S "isinstance") (hx : IsG S "int") (ha : B S ss ow e d) : B S ss ow (.Call (.Name "isinstance" p1) [e, .Name "int" p] [] pos) (.bool (isIntD d)) :=
  b_isi B0 he hg hx B0.int PyProof.Rows.boot_int ha (by
    cases d
    case none => exact (show kitB "NoneType" "int" = some false by decide +kernel)
    case bool => exact (show kitB "bool" "int" = some true by decide +kernel)
    case int => exact (show kitB "int" "int" = some true by decide +kernel)
    case str => exact (show kitB "str" "int" = some false by decide +kernel)
    case list => exact (show kitB "list" "int" = some false by decide +kernel)
    case tuple => exact (show kitB "tuple" "int" = some false by decide +kernel)
    case dict => exact (show kitB "dict" "int" = some false by decide +kernel))
theorem b_isBool (B0 : Blt S.mg) (he : ∀ env : Env, starEach [e, .Name "bool" p] env = (false, eval e env) :: starEach [.Name "bool" p] env) (hg : IsG S "isinstance") (hx : IsG S "bool") (ha : B S ss ow e d) : B S ss ow (.Call (.Name "isinstance" p1) [e, .Name "bool" p] [] pos) (.bool (isBoolD d)) :=
  b_isi B0 he hg hx B0.bool PyProof.Rows.boot_bool ha (by
    cases d
    case none => exact (show kitB "NoneType" "bool" = some false by decide +kernel)
    case bool => exact (show kitB "bool" "bool" = some true by decide +kernel)
    case int => exact (show kitB "int" "bool" = some false by decide +kernel)
    case str => exact (show kitB "str" "bool" = some false by decide +kernel)
    case list => exact (show kitB "list" "bool" = some false by decide +kernel)
    case tuple => exact (show kitB "tuple" "bool" = some false by decide +kernel)
    case dict => exact (show kitB "dict" "bool" = some false by decide +kernel))
theorem b_isSeq (B0 : Blt S.mg) (he : ∀ env : Env, starEach [e, .Tuple [.Name "list" p, .Name "tuple" p2] kt p3] env = (false, eval e env) :: starEach [.Tuple [.Name "list" p, .Name "tuple" p2] kt p3] env) (hg : IsG S "isinstance") (hx : IsG S "list") (hx2 : IsG S "tuple") (ha : B S ss ow e d) : B S ss ow (.Call (.Name "isinstance" p1) [e, .Tuple [.Name "list" p, .Name "tuple" p2] kt p3] [] pos) (.bool (isSeqD d)) := by
  have h : ∃ t1 t2, kitB (tyD d) "list" = some t1 ∧ kitB (tyD d) "tuple" = some t2 ∧ (t1 || t2) = isSeqD d := by
    cases d
    case none => exact ⟨false, false, (show kitB "NoneType" "list" = some false by decide +kernel), (show kitB "NoneType" "tuple" = some false by decide +kernel), rfl⟩
    case bool => exact ⟨false, false, (show kitB "bool" "list" = some false by decide +kernel), (show kitB "bool" "tuple" = some false by decide +kernel), rfl⟩
    case int => exact ⟨false, false, (show kitB "int" "list" = some false by decide +kernel), (show kitB "int" "tuple" = some false by decide +kernel), rfl⟩
    case str => exact ⟨false, false, (show kitB "str" "list" = some false by decide +kernel), (show kitB "str" "tuple" = some false by decide +kernel), rfl⟩
    case list => exact ⟨true, false, (show kitB "list" "list" = some true by decide +kernel), (show kitB "list" "tuple" = some false by decide +kernel), rfl⟩
    case tuple => exact ⟨false, true, (show kitB "tuple" "list" = some false by decide +kernel), (show kitB "tuple" "tuple" = some true by decide +kernel), rfl⟩
    case dict => exact ⟨false, false, (show kitB "dict" "list" = some false by decide +kernel), (show kitB "dict" "tuple" = some false by decide +kernel), rfl⟩
  obtain ⟨t1, t2, h1, h2, h3⟩ := h
  rw [← h3]
  exact b_isi2 B0 he hg hx B0.list PyProof.Rows.boot_list hx2 B0.tuple PyProof.Rows.boot_tuple ha h1 h2
end
theorem B.cast {S : Stc} {ss : List SS} {ow : Ow} {e : Expr} {d d' : PyData} (h : B S ss ow e d) (q : d = d') : B S ss ow e d' := q ▸ h
def isNoneD : PyData → Bool
  | .none => true
  | _ => false
theorem b_isN {S : Stc} {ss : List SS} {ow : Ow} {a : Expr} {d : PyData} {j : Nat} {pos p : Pos} (ha : B S ss ow a d) : B S ss ow (.Compare a [.Is] [.Constant .none j p] pos) (.bool (isNoneD d)) :=
  b_cmp (.isN d _ (by cases d <;> rfl)) ha b_non rfl
/-! ### common, reduced -/
def rCommon (ds : List PyData) (d : PyData) : Prop := ∃ a b : Int, ds = [.int a, .int b] ∧ d = .int (Int.gcd a b : Nat)
abbrev DCommon (P : Program) (w : World) (K : PySem.W.Frag) (mg : Str → Option Value) (base : Heap) := Def P w K mg base "common" ["one", "other"] 33 (spR K 2 rCommon)
theorem ok_common {f : Addr} {fd : FuncData} (F : Fun K "common" "common" sCommon f fd) (hg : mg "common" = some (.ref f)) (hb : Binds K fd ["one", "other"] []) (ba : Bas P mg base) : DCommon P w K mg base := by
  refine fn_R F scCommon hg hb ba (by decide) rfl fun ds d hR _ => ?_
  obtain ⟨a, b, rfl, rfl⟩ := hR
  have B0 := ba.b0
  show R _ [.dat (.int a), .dat (.int b)] [] _ _ _
  refine r_par (i := 0) (j := 1) rfl rfl (by decide) rfl rfl (by walk_at "bb") (by walk_at "sw") (by walk_at "sw") ?_
  show R _ [.dat (.int a.natAbs), .dat (.int b.natAbs)] [] _ _ _
  refine r_while (fun m ss ow => ∃ x y : Nat, m = y ∧ ss = [.dat (.int x), .dat (.int y)] ∧ ow = [] ∧ Nat.gcd x y = Int.gcd a b) b.natAbs ⟨a.natAbs, b.natAbs, rfl, rfl, rfl, rfl⟩ fun m ss ow hI => ?_
  obtain ⟨x, y, e, rfl, rfl, hxy⟩ := hI
  refine ⟨_, bt_cmp (.gt _ _) (by walk_at "bb") (by walk_at "bb") rfl, fun h => ?_, fun h => ?_⟩
  · have h : (0 : Int) < y := of_decide_eq_true h
    refine r_par (i := 0) (j := 1) rfl rfl (by decide) rfl rfl (by walk_at "bb") (by walk_at "sw") (by walk_at "sw") ?_
    refine r_nil ⟨x % y, by rw [e]; exact Nat.mod_lt _ (by omega), y, x % y, rfl, rfl, rfl, ?_⟩
    rw [← hxy, Nat.gcd_comm y, ← Nat.gcd_rec, Nat.gcd_comm]
  · have h : ¬ (0 : Int) < y := of_decide_eq_false h
    have hy : y = 0 := by omega
    subst hy
    rw [Nat.gcd_zero_right] at hxy
    subst hxy
    exact r_ret (by walk_at "bb") rfl
def rReduced (ds : List PyData) (d : PyData) : Prop := ∃ a b : Int, ds = [.int a, .int b] ∧ 0 < b ∧ d = fr (Rat.divInt a b)
abbrev DReduced (P : Program) (w : World) (K : PySem.W.Frag) (mg : Str → Option Value) (base : Heap) := Def P w K mg base "reduced" ["up", "down"] 34 (spR K 2 rReduced)
theorem ok_reduced {f : Addr} {fd : FuncData} (F : Fun K "reduced" "reduced" sReduced f fd) (hg : mg "reduced" = some (.ref f)) (hb : Binds K fd ["up", "down"] []) (ba : Bas P mg base) (Dc : DCommon P w K mg base) : DReduced P w K mg base := by
  refine fn_R F scReduced hg hb ba (by decide) rfl fun ds d hR _ => ?_
  obtain ⟨a, b, rfl, hb0, rfl⟩ := hR
  have B0 := ba.b0
  show R _ [.dat (.int a), .dat (.int b), .any] [] _ _ _
  refine r_set (i := 2) rfl (by walk_at "loc") (by walk_at "bb") (by walk_at "sw") ?_
  show R _ [.dat (.int a), .dat (.int b), .dat (.int (Int.gcd a b : Nat))] [] _ _ _
  have hg : (0 : Int) < (Int.gcd a b : Nat) := by
    have := Int.gcd_pos_of_ne_zero_right a (show b ≠ 0 by omega)
    omega
  refine r_ret (d := .tuple [.int (a / (Int.gcd a b : Nat)), .int (b / (Int.gcd a b : Nat))]) (by walk_at "bb") ?_
  rw [← (divInt_parts a b hb0).1, ← (divInt_parts a b hb0).2]
/-! ### checks -/
def rIsInteger (ds : List PyData) (d : PyData) : Prop := ∃ n : Int, ds = [.int n] ∧ d = .bool true
abbrev DIsInteger (P : Program) (w : World) (K : PySem.W.Frag) (mg : Str → Option Value) (base : Heap) := Def P w K mg base "is_integer" ["value"] 33 (spR K 1 rIsInteger)
theorem ok_is_integer {f : Addr} {fd : FuncData} (F : Fun K "is_integer" "is_integer" sIsInteger f fd) (hg : mg "is_integer" = some (.ref f)) (hb : Binds K fd ["value"] []) (ba : Bas P mg base) : DIsInteger P w K mg base := by
  refine fn_R F scIsInteger hg hb ba (by decide) rfl fun ds d hR _ => ?_
  obtain ⟨n, rfl, rfl⟩ := hR
  have B0 := ba.b0
  show R _ [.dat (.int n)] [] _ _ _
  exact r_ret (b_and (b_isInt B0 (fun _ => rfl) rfl rfl (by walk_at "bb")) fun _ => b_one (b_not (b_isBool B0 (fun _ => rfl) rfl rfl (by walk_at "bb")))) rfl
def rIsWithin (ds : List PyData) (d : PyData) : Prop := ∃ n l : Int, ds = [.int n, .int l, .none] ∧ l ≤ n ∧ d = .bool true
abbrev DIsWithin (P : Program) (w : World) (K : PySem.W.Frag) (mg : Str → Option Value) (base : Heap) := Def P w K mg base "is_within" ["value", "least", "most"] 34 (spR K 3 rIsWithin)
theorem ok_is_within {f : Addr} {fd : FuncData} (F : Fun K "is_within" "is_within" sIsWithin f fd) (hg : mg "is_within" = some (.ref f)) (hb : Binds K fd ["value", "least", "most"] []) (ba : Bas P mg base) (D1 : DIsInteger P w K mg base) : DIsWithin P w K mg base := by
  refine fn_R F scIsWithin hg hb ba (by decide) rfl fun ds d hR _ => ?_
  obtain ⟨n, l, rfl, hl, rfl⟩ := hR
  have B0 := ba.b0
  show R _ [.dat (.int n), .dat (.int l), .dat .none] [] _ _ _
  refine r_if (t := false) (bt_not (t := true) (bt_val (by walk_at "bb") fun _ _ => rfl)) (fun h => by cases h) fun _ => ?_
  refine r_nil (r_ret (b_and (b_or (b_isN (by walk_at "bb")) fun _ => b_one (b_cmp (.le l n) (by walk_at "bb") (by walk_at "bb") rfl)) fun _ => b_one (b_or (u := true) (b_isN (by walk_at "bb")) fun h => by cases (show true = false from h))) ?_)
  show PyData.bool ((false || decide (l ≤ n)) && (true || true)) = PyData.bool true
  rw [decide_eq_true hl]
  rfl
def rIsFraction (ds : List PyData) (d : PyData) : Prop := ∃ v q, ds = [v] ∧ RepF v q ∧ d = .bool true
abbrev DIsFraction (P : Program) (w : World) (K : PySem.W.Frag) (mg : Str → Option Value) (base : Heap) := Def P w K mg base "is_fraction" ["value"] 35 (spR K 1 rIsFraction)
theorem ok_is_fraction {f : Addr} {fd : FuncData} (F : Fun K "is_fraction" "is_fraction" sIsFraction f fd) (hg : mg "is_fraction" = some (.ref f)) (hb : Binds K fd ["value"] []) (ba : Bas P mg base) (D1 : DIsInteger P w K mg base) (D2 : DIsWithin P w K mg base) : DIsFraction P w K mg base := by
  refine fn_R F scIsFraction hg hb ba (by decide) rfl fun ds d hR _ => ?_
  obtain ⟨v, q, rfl, hv, rfl⟩ := hR
  have B0 := ba.b0
  cases hv with
  | int n =>
    show R _ [.dat (.int n)] [] _ _ _
    refine r_if (bt_not (bt_val (b_isSeq B0 (fun _ => rfl) rfl rfl rfl (by walk_at "bb")) fun _ _ => rfl)) (fun _ => ?_) (fun h => by cases (show true = false from h))
    exact r_ret (by walk_at "bb") rfl
  | tup a b h =>
    have hb1 : (1 : Int) ≤ b := h
    show R _ [.dat (.tuple [.int a, .int b])] [] _ _ _
    refine r_if (bt_not (bt_val (b_isSeq B0 (fun _ => rfl) rfl rfl rfl (by walk_at "bb")) fun _ _ => rfl)) (fun h => by cases (show false = true from h)) fun _ => ?_
    refine r_nil (r_ret (b_and (u := true && true) (b_cmp (.eqI _ _) (b_lenT B0 (fun _ => rfl) rfl (by walk_at "bb")) (by walk_at "bb") rfl) fun _ => b_and (by walk_at "bb") fun _ => b_one (by walk_at "bb")) rfl)
  | lst a b h =>
    have hb1 : (1 : Int) ≤ b := h
    show R _ [.dat (.list [.int a, .int b])] [] _ _ _
    refine r_if (bt_not (bt_val (b_isSeq B0 (fun _ => rfl) rfl rfl rfl (by walk_at "bb")) fun _ _ => rfl)) (fun h => by cases (show false = true from h)) fun _ => ?_
    refine r_nil (r_ret (b_and (u := true && true) (b_cmp (.eqI _ _) (b_lenL B0 (fun _ => rfl) rfl (by walk_at "bb")) (by walk_at "bb") rfl) fun _ => b_and (by walk_at "bb") fun _ => b_one (by walk_at "bb")) rfl)
/-! ### fractions -/
def rAsPair (ds : List PyData) (d : PyData) : Prop := ∃ v q, ds = [v] ∧ RepF v q ∧ d = fr q
abbrev DAsPair (P : Program) (w : World) (K : PySem.W.Frag) (mg : Str → Option Value) (base : Heap) := Def P w K mg base "as_pair" ["value"] 35 (spR K 1 rAsPair)
theorem ok_as_pair {f : Addr} {fd : FuncData} (F : Fun K "as_pair" "as_pair" sAsPair f fd) (hg : mg "as_pair" = some (.ref f)) (hb : Binds K fd ["value"] []) (ba : Bas P mg base) (D1 : DReduced P w K mg base) : DAsPair P w K mg base := by
  refine fn_R F scAsPair hg hb ba (by decide) rfl fun ds d hR _ => ?_
  obtain ⟨v, q, rfl, hv, rfl⟩ := hR
  have B0 := ba.b0
  cases hv with
  | int n =>
    show R _ [.dat (.int n)] [] _ _ _
    refine r_ret (d := .tuple [.int n, .int 1]) (b_if (bt_val (b_isSeq B0 (fun _ => rfl) rfl rfl rfl (by walk_at "bb")) fun _ _ => rfl) (fun h => by cases (show false = true from h)) fun _ => by walk_at "bb") rfl
  | tup a b h =>
    show R _ [.dat (.tuple [.int a, .int b])] [] _ _ _
    refine r_ret (b_if (bt_val (b_isSeq B0 (fun _ => rfl) rfl rfl rfl (by walk_at "bb")) fun _ _ => rfl) (fun _ => by walk_at "bb") fun h => by cases (show true = false from h)) rfl
  | lst a b h =>
    show R _ [.dat (.list [.int a, .int b])] [] _ _ _
    refine r_ret (b_if (bt_val (b_isSeq B0 (fun _ => rfl) rfl rfl rfl (by walk_at "bb")) fun _ _ => rfl) (fun _ => by walk_at "bb") fun h => by cases (show true = false from h)) rfl
end
end Mf
end

-- text D2
section
set_option Elab.async false
set_option linter.all false
set_option autoImplicit false
set_option maxRecDepth 100000
set_option maxHeartbeats 200000
namespace Mf
open PySem PySem.Spec PyProof.Rows L2 Evl
local macro_rules | `(tactic| walk_at "ix") => `(tactic| first | (with_reducible exact .here) | (with_reducible apply Ix.there; walk_at "ix"))
local macro_rules | `(tactic| walk_at "loc") => `(tactic| (refine loc_of ?_; kernel_rfl))
local macro_rules | `(tactic| walk_at "hk") => `(tactic| exact Nat.le_of_ble_eq_true rfl)
local macro_rules | `(tactic| walk_at "rel") => `(tactic| first | exact ⟨_, rfl, rfl⟩ | exact ⟨_, _, rfl, rfl⟩ | exact ⟨_, _, _, rfl, rfl⟩ | exact ⟨_, rfl, by assumption, rfl⟩ | exact ⟨_, _, rfl, by assumption, rfl⟩ | exact ⟨_, _, rfl, by assumption, by assumption, rfl⟩)
local macro_rules | `(tactic| walk_at "sw") => `(tactic| (intro env h; first | rfl | (cases env; cases h; rfl)))
/-- an expression, its side questions -/
local macro_rules | `(tactic| walk_at "bb") => `(tactic| first
  | ((with_reducible apply b_vi) <;> first | ((with_reducible show Ix _ _ _); walk_at "ix") | ((with_reducible show visB _ _ = true); kernel_rfl) | ((with_reducible show okN _ = true); kernel_rfl) | rfl)
  | ((with_reducible apply b_int) <;> walk_at "bb")
  | ((with_reducible apply b_bool) <;> walk_at "bb")
  | ((with_reducible apply b_non) <;> walk_at "bb")
  | ((with_reducible apply b_str) <;> walk_at "bb")
  | ((with_reducible apply b_add) <;> walk_at "bb")
  | ((with_reducible apply b_sub) <;> walk_at "bb")
  | ((with_reducible apply b_mul) <;> walk_at "bb")
  | ((with_reducible apply b_mod) <;> walk_at "bb")
  | ((with_reducible apply b_fdiv) <;> walk_at "bb")
  | ((with_reducible apply b_neg) <;> walk_at "bb")
  | ((with_reducible apply b_pow) <;> walk_at "bb")
  | ((with_reducible apply b_tup) <;> walk_at "bb")
  | ((with_reducible apply b_ixT) <;> walk_at "bb")
  | ((with_reducible apply b_ixL) <;> walk_at "bb")
  | ((with_reducible apply b_abs) <;> walk_at "bb")
  | ((with_reducible apply b_lenT) <;> walk_at "bb")
  | ((with_reducible apply b_lenL) <;> walk_at "bb")
  | ((with_reducible apply b_max2) <;> walk_at "bb")
  | ((with_reducible apply b_intI) <;> walk_at "bb")
  | ((with_reducible apply b_intB) <;> walk_at "bb")
  | ((with_reducible apply b_tupleL) <;> walk_at "bb")
  | ((with_reducible apply b_all) <;> walk_at "bb")
  | ((with_reducible apply b_sum) <;> walk_at "bb")
  | ((with_reducible apply b_if) <;> walk_at "bb")
  | ((with_reducible apply b_and) <;> walk_at "bb")
  | ((with_reducible apply b_or) <;> walk_at "bb")
  | ((with_reducible apply b_not) <;> walk_at "bb")
  | ((with_reducible apply b_one) <;> walk_at "bb")
  | ((with_reducible apply b_cmp) <;> walk_at "bb")
  | ((with_reducible apply ba_nil) <;> walk_at "bb")
  | ((with_reducible apply ba_cons) <;> walk_at "bb")
  | ((with_reducible apply b_callI) <;> walk_at "bb")
  | ((with_reducible apply bt_cmp) <;> walk_at "bb")
  | ((with_reducible apply bt_not) <;> walk_at "bb")
  | ((with_reducible show IsG _ _); kernel_rfl)
  | ((with_reducible show okN _ = true); kernel_rfl)
  | (with_reducible assumption)
  | (with_reducible exact CmpD.gt _ _)
  | (with_reducible exact CmpD.lt _ _)
  | (with_reducible exact CmpD.ge _ _)
  | (with_reducible exact CmpD.le _ _)
  | (with_reducible exact CmpD.eqI _ _)
  | (with_reducible exact CmpD.neI _ _)
  | ((with_reducible show _ = _); rfl)
  | ((with_reducible show (_ : Nat) ≤ _); first | walk_at "hk" | decide)
  | (intro _; rfl)
  | (intro _ _; rfl)
  | walk_at "rel")
section
variable {P : Program} {w : World} {K : PySem.W.Frag} {mg : Str → Option Value} {base : Heap}
theorem add_divInt (q r : Rat) : Rat.divInt (q.num * r.den + r.num * q.den) (q.den * r.den) = q + r := by
  have h := Rat.divInt_add_divInt q.num r.num (d₁ := (q.den : Int)) (d₂ := (r.den : Int)) (by have := q.den_pos; omega) (by have := r.den_pos; omega)
  rw [Rat.num_divInt_den, Rat.num_divInt_den] at h
  exact h.symm
theorem add_same (q r : Rat) (h : q.den = r.den) : Rat.divInt (q.num + r.num) q.den = q + r := by
  have hq : (q.den : Int) ≠ 0 := by have := q.den_pos; omega
  rw [← add_divInt, ← h, ← Int.add_mul, Rat.divInt_mul_right hq]
theorem mul_divInt (q r : Rat) : Rat.divInt (q.num * r.num) (q.den * r.den) = q * r := by
  have h := Rat.divInt_mul_divInt q.num r.num (d₁ := (q.den : Int)) (d₂ := (r.den : Int))
  rw [Rat.num_divInt_den, Rat.num_divInt_den] at h
  exact h.symm
theorem div_divInt (q r : Rat) : Rat.divInt (q.num * r.den) (q.den * r.num) = q / r := by
  have h := Rat.divInt_mul_divInt q.num (r.den : Int) (d₁ := (q.den : Int)) (d₂ := r.num)
  rw [Rat.div_def, Rat.inv_def, ← h, Rat.num_divInt_den]
theorem den_mul_pos (q r : Rat) : (0 : Int) < (q.den : Int) * (r.den : Int) := Int.mul_pos (by have := q.den_pos; omega) (by have := r.den_pos; omega)
def rPlus (ds : List PyData) (d : PyData) : Prop := ∃ q r, ds = [fr q, fr r] ∧ SF q ∧ SF r ∧ d = fr (q + r)
abbrev DPlus (P : Program) (w : World) (K : PySem.W.Frag) (mg : Str → Option Value) (base : Heap) := Def P w K mg base "plus" ["one", "other"] 35 (spR K 2 rPlus)
theorem ok_plus {f : Addr} {fd : FuncData} (F : Fun K "plus" "plus" sPlus f fd) (hg : mg "plus" = some (.ref f)) (hb : Binds K fd ["one", "other"] []) (ba : Bas P mg base) (D1 : DReduced P w K mg base) : DPlus P w K mg base := by
  refine fn_R F scPlus hg hb ba (by decide) rfl fun ds d hR _ => ?_
  obtain ⟨q, r, rfl, hq, hr, rfl⟩ := hR
  have B0 := ba.b0
  have hqd : (0 : Int) < (q.den : Int) := by have := q.den_pos; omega
  have m1 := SI.mul hq.1 hr.2
  have m2 := SI.mul hr.1 hq.2
  have m3 := SI.mul hq.2 hr.2
  have m4 := den_mul_pos q r
  show R _ [.dat (fr q), .dat (fr r)] [] _ _ _
  refine r_if (bt_cmp (.eqI (q.den : Int) (r.den : Int)) (by walk_at "bb") (by walk_at "bb") rfl) (fun h => ?_) fun h => ?_
  · have h : (q.den : Int) = r.den := of_decide_eq_true h
    refine r_ret (d := fr (Rat.divInt (q.num + r.num) q.den)) (by walk_at "bb") ?_
    rw [add_same q r (by omega)]
  · refine r_nil (r_ret (d := fr (Rat.divInt (q.num * r.den + r.num * q.den) (q.den * r.den))) (by walk_at "bb") ?_)
    rw [add_divInt]
theorem fr_neg (r : Rat) : fr (-r) = .tuple [.int (-r.num), .int r.den] := by
  show PyData.tuple [.int (-r).num, .int (-r).den] = _
  rw [Rat.neg_num, Rat.neg_den]
def rMinus (ds : List PyData) (d : PyData) : Prop := ∃ q r, ds = [fr q, fr r] ∧ SF q ∧ SF r ∧ d = fr (q - r)
abbrev DMinus (P : Program) (w : World) (K : PySem.W.Frag) (mg : Str → Option Value) (base : Heap) := Def P w K mg base "minus" ["one", "other"] 36 (spR K 2 rMinus)
theorem SF.neg {q : Rat} (h : SF q) : SF (-q) := ⟨by rw [Rat.neg_num]; exact h.1.neg, by rw [Rat.neg_den]; exact h.2⟩
theorem ok_minus {f : Addr} {fd : FuncData} (F : Fun K "minus" "minus" sMinus f fd) (hg : mg "minus" = some (.ref f)) (hb : Binds K fd ["one", "other"] []) (ba : Bas P mg base) (D1 : DPlus P w K mg base) : DMinus P w K mg base := by
  refine fn_R F scMinus hg hb ba (by decide) rfl fun ds d hR _ => ?_
  obtain ⟨q, r, rfl, hq, hr, rfl⟩ := hR
  have B0 := ba.b0
  show R _ [.dat (fr q), .dat (fr r)] [] _ _ _
  refine r_ret (d := fr (q + -r)) (b_callI D1 (by walk_at "hk") (by kernel_rfl) (ds := [fr q, .tuple [.int (-r.num), .int r.den]]) (by walk_at "bb") ⟨q, -r, by rw [fr_neg], hq, hr.neg, rfl⟩ rfl (fun _ => rfl) (fun _ => rfl) (by kernel_rfl)) ?_
  rw [Rat.sub_eq_add_neg]
def rTimes (ds : List PyData) (d : PyData) : Prop := ∃ q r, ds = [fr q, fr r] ∧ SF q ∧ SF r ∧ d = fr (q * r)
abbrev DTimes (P : Program) (w : World) (K : PySem.W.Frag) (mg : Str → Option Value) (base : Heap) := Def P w K mg base "times" ["one", "other"] 35 (spR K 2 rTimes)
theorem ok_times {f : Addr} {fd : FuncData} (F : Fun K "times" "times" sTimes f fd) (hg : mg "times" = some (.ref f)) (hb : Binds K fd ["one", "other"] []) (ba : Bas P mg base) (D1 : DReduced P w K mg base) : DTimes P w K mg base := by
  refine fn_R F scTimes hg hb ba (by decide) rfl fun ds d hR _ => ?_
  obtain ⟨q, r, rfl, hq, hr, rfl⟩ := hR
  have B0 := ba.b0
  have m1 := SI.mul hq.1 hr.1
  have m3 := SI.mul hq.2 hr.2
  have m4 := den_mul_pos q r
  show R _ [.dat (fr q), .dat (fr r)] [] _ _ _
  refine r_ret (d := fr (Rat.divInt (q.num * r.num) (q.den * r.den))) (by walk_at "bb") ?_
  rw [mul_divInt]
def rOver (ds : List PyData) (d : PyData) : Prop := ∃ q r, ds = [fr q, fr r] ∧ SF q ∧ SF r ∧ r ≠ 0 ∧ d = fr (q / r)
abbrev DOver (P : Program) (w : World) (K : PySem.W.Frag) (mg : Str → Option Value) (base : Heap) := Def P w K mg base "over" ["one", "other"] 35 (spR K 2 rOver)
theorem ok_over {f : Addr} {fd : FuncData} (F : Fun K "over" "over" sOver f fd) (hg : mg "over" = some (.ref f)) (hb : Binds K fd ["one", "other"] []) (ba : Bas P mg base) (D1 : DReduced P w K mg base) : DOver P w K mg base := by
  refine fn_R F scOver hg hb ba (by decide) rfl fun ds d hR _ => ?_
  obtain ⟨q, r, rfl, hq, hr, hr0, rfl⟩ := hR
  have B0 := ba.b0
  have m1 := SI.mul hq.1 hr.2
  have m3 := SI.mul hq.2 hr.1
  have hn : r.num ≠ 0 := fun h => hr0 (Rat.num_eq_zero.mp h)
  have hqd : (0 : Int) < (q.den : Int) := by have := q.den_pos; omega
  show R _ [.dat (fr q), .dat (fr r), .any, .any] [] _ _ _
  refine r_par (i := 2) (j := 3) rfl rfl (by decide) rfl rfl (by walk_at "bb") (by walk_at "sw") (by walk_at "sw") ?_
  show R _ [.dat (fr q), .dat (fr r), .dat (.int (q.num * r.den)), .dat (.int (q.den * r.num))] [] _ _ _
  rw [← div_divInt]
  by_cases hp : 0 < (q.den : Int) * r.num
  · refine r_ret (d := fr (Rat.divInt (q.num * r.den) (q.den * r.num))) (b_if (bt_cmp (.gt _ _) (by walk_at "bb") (by walk_at "bb") rfl) (fun _ => by walk_at "bb") fun h => absurd hp (of_decide_eq_false h)) rfl
  · have hm : 0 < -((q.den : Int) * r.num) := by
      have : (q.den : Int) * r.num ≠ 0 := Int.mul_ne_zero (by omega) hn
      omega
    refine r_ret (d := fr (Rat.divInt (-(q.num * r.den)) (-(q.den * r.num)))) (b_if (bt_cmp (.gt _ _) (by walk_at "bb") (by walk_at "bb") rfl) (fun h => absurd (of_decide_eq_true h) hp) fun _ => by walk_at "bb") ?_
    rw [Rat.neg_divInt_neg]
def rIsLess (ds : List PyData) (d : PyData) : Prop := ∃ q r : Rat, ds = [fr q, fr r] ∧ SF q ∧ SF r ∧ d = .bool (decide (q < r))
abbrev DIsLess (P : Program) (w : World) (K : PySem.W.Frag) (mg : Str → Option Value) (base : Heap) := Def P w K mg base "is_less" ["one", "other"] 33 (spR K 2 rIsLess)
theorem ok_is_less {f : Addr} {fd : FuncData} (F : Fun K "is_less" "is_less" sIsLess f fd) (hg : mg "is_less" = some (.ref f)) (hb : Binds K fd ["one", "other"] []) (ba : Bas P mg base) : DIsLess P w K mg base := by
  refine fn_R F scIsLess hg hb ba (by decide) rfl fun ds d hR _ => ?_
  obtain ⟨q, r, rfl, hq, hr, rfl⟩ := hR
  have B0 := ba.b0
  have m1 := SI.mul hq.1 hr.2
  have m3 := SI.mul hr.1 hq.2
  show R _ [.dat (fr q), .dat (fr r)] [] _ _ _
  refine r_ret (b_cmp (.lt (q.num * r.den) (r.num * q.den)) (by walk_at "bb") (by walk_at "bb") rfl) ?_
  rw [decide_eq_decide.mpr (Rat.lt_iff q r)]
def rNeedFraction (ds : List PyData) (d : PyData) : Prop := ∃ v q z, ds = [v, .str z] ∧ RepF v q ∧ d = fr q
abbrev DNeedFraction (P : Program) (w : World) (K : PySem.W.Frag) (mg : Str → Option Value) (base : Heap) := Def P w K mg base "need_fraction" ["value", "part"] 36 (spR K 2 rNeedFraction)
theorem ok_need_fraction {f : Addr} {fd : FuncData} (F : Fun K "need_fraction" "need_fraction" sNeedFraction f fd) (hg : mg "need_fraction" = some (.ref f)) (hb : Binds K fd ["value", "part"] []) (ba : Bas P mg base) (D1 : DIsFraction P w K mg base) (D2 : DAsPair P w K mg base) : DNeedFraction P w K mg base := by
  refine fn_R F scNeedFraction hg hb ba (by decide) rfl fun ds d hR _ => ?_
  obtain ⟨v, q, z, rfl, hv, rfl⟩ := hR
  have B0 := ba.b0
  show R _ [.dat v, .dat (.str z)] [] _ _ _
  refine r_if (t := false) (bt_not (t := true) (bt_val (b_callI D1 (by walk_at "hk") (by kernel_rfl) (ds := [v]) (by walk_at "bb") ⟨v, q, rfl, hv, rfl⟩ rfl (fun _ => rfl) (fun _ => rfl) (by kernel_rfl)) fun _ _ => rfl)) (fun h => by cases h) fun _ => ?_
  exact r_nil (r_ret (b_callI D2 (by walk_at "hk") (by kernel_rfl) (ds := [v]) (by walk_at "bb") ⟨v, q, rfl, hv, rfl⟩ rfl (fun _ => rfl) (fun _ => rfl) (by kernel_rfl)) rfl)
end
end Mf
end

-- text D3
section
set_option Elab.async false
set_option linter.all false
set_option autoImplicit false
set_option maxRecDepth 100000
set_option maxHeartbeats 200000
namespace Mf
open PySem PySem.Spec PyProof.Rows L2 Evl
local macro_rules | `(tactic| walk_at "ix") => `(tactic| first | (with_reducible exact .here) | (with_reducible apply Ix.there; walk_at "ix"))
local macro_rules | `(tactic| walk_at "loc") => `(tactic| (refine loc_of ?_; kernel_rfl))
local macro_rules | `(tactic| walk_at "hk") => `(tactic| exact Nat.le_of_ble_eq_true rfl)
local macro_rules | `(tactic| walk_at "rel") => `(tactic| first | exact ⟨_, rfl, rfl⟩ | exact ⟨_, _, rfl, rfl⟩ | exact ⟨_, _, _, rfl, rfl⟩ | exact ⟨_, rfl, by assumption, rfl⟩ | exact ⟨_, _, rfl, by assumption, rfl⟩ | exact ⟨_, _, rfl, by assumption, by assumption, rfl⟩)
local macro_rules | `(tactic| walk_at "sw") => `(tactic| (intro env h; first | rfl | (cases env; cases h; rfl)))
/-- an expression, its side questions -/
local macro_rules | `(tactic| walk_at "bb") => `(tactic| first
  | ((with_reducible apply b_vi) <;> first | ((with_reducible show Ix _ _ _); walk_at "ix") | ((with_reducible show visB _ _ = true); kernel_rfl) | ((with_reducible show okN _ = true); kernel_rfl) | rfl)
  | ((with_reducible apply b_int) <;> walk_at "bb")
  | ((with_reducible apply b_bool) <;> walk_at "bb")
  | ((with_reducible apply b_non) <;> walk_at "bb")
  | ((with_reducible apply b_str) <;> walk_at "bb")
  | ((with_reducible apply b_add) <;> walk_at "bb")
  | ((with_reducible apply b_sub) <;> walk_at "bb")
  | ((with_reducible apply b_mul) <;> walk_at "bb")
  | ((with_reducible apply b_mod) <;> walk_at "bb")
  | ((with_reducible apply b_fdiv) <;> walk_at "bb")
  | ((with_reducible apply b_neg) <;> walk_at "bb")
  | ((with_reducible apply b_pow) <;> walk_at "bb")
  | ((with_reducible apply b_tup) <;> walk_at "bb")
  | ((with_reducible apply b_ixT) <;> walk_at "bb")
  | ((with_reducible apply b_ixL) <;> walk_at "bb")
  | ((with_reducible apply b_abs) <;> walk_at "bb")
  | ((with_reducible apply b_lenT) <;> walk_at "bb")
  | ((with_reducible apply b_lenL) <;> walk_at "bb")
  | ((with_reducible apply b_max2) <;> walk_at "bb")
  | ((with_reducible apply b_intI) <;> walk_at "bb")
  | ((with_reducible apply b_intB) <;> walk_at "bb")
  | ((with_reducible apply b_tupleL) <;> walk_at "bb")
  | ((with_reducible apply b_all) <;> walk_at "bb")
  | ((with_reducible apply b_sum) <;> walk_at "bb")
  | ((with_reducible apply b_if) <;> walk_at "bb")
  | ((with_reducible apply b_and) <;> walk_at "bb")
  | ((with_reducible apply b_or) <;> walk_at "bb")
  | ((with_reducible apply b_not) <;> walk_at "bb")
  | ((with_reducible apply b_one) <;> walk_at "bb")
  | ((with_reducible apply b_cmp) <;> walk_at "bb")
  | ((with_reducible apply ba_nil) <;> walk_at "bb")
  | ((with_reducible apply ba_cons) <;> walk_at "bb")
  | ((with_reducible apply b_callI) <;> walk_at "bb")
  | ((with_reducible apply bt_cmp) <;> walk_at "bb")
  | ((with_reducible apply bt_not) <;> walk_at "bb")
  | ((with_reducible show IsG _ _); kernel_rfl)
  | ((with_reducible show okN _ = true); kernel_rfl)
  | (with_reducible assumption)
  | (with_reducible exact CmpD.gt _ _)
  | (with_reducible exact CmpD.lt _ _)
  | (with_reducible exact CmpD.ge _ _)
  | (with_reducible exact CmpD.le _ _)
  | (with_reducible exact CmpD.eqI _ _)
  | (with_reducible exact CmpD.neI _ _)
  | ((with_reducible show _ = _); rfl)
  | ((with_reducible show (_ : Nat) ≤ _); first | walk_at "hk" | decide)
  | (intro _; rfl)
  | (intro _ _; rfl)
  | walk_at "rel")
section
variable {P : Program} {w : World} {K : PySem.W.Frag} {mg : Str → Option Value} {base : Heap}
/-- the module's constants -/
structure Mods (K : PySem.W.Frag) (mg : Str → Option Value) : Prop where
  zero : ∃ a, mg "ZERO" = some (.ref a) ∧ Dp K (fun _ => none) (.ref a) (.tuple [.int 0, .int 1])
  most : ∃ n, mg "MOST_NUMBERS" = some (.int 80 n)
theorem beq_dec {α : Type} [BEq α] [LawfulBEq α] [DecidableEq α] (a b : α) : (a == b) = decide (a = b) := by
  rw [Bool.eq_iff_iff, beq_iff_eq, decide_eq_true_eq]
theorem eqv_fr (q r : Rat) : PyData.eqv (fr q) (fr r) = decide (q = r) := by
  have e : (q = r) ↔ (q.num = r.num ∧ q.den = r.den) := ⟨fun h => by rw [h]; exact ⟨rfl, rfl⟩, fun h => Rat.ext h.1 h.2⟩
  simp only [PyData.eqv, PyData.eqvAll, Bool.and_true]
  rw [decide_eq_decide.mpr e, Bool.decide_and]
  have e2 : ((q.den : Int) == (r.den : Int)) = decide (q.den = r.den) := by
    rw [beq_dec]
    exact decide_eq_decide.mpr (by omega)
  have e1 : (q.num == r.num) = decide (q.num = r.num) := beq_dec _ _
  rw [e1, e2]
theorem shaped_fr (q : Rat) : SeqAt.shaped (fr q) = true := by
  simp [SeqAt.shaped, PyData.canLay0, PyData.canLayAll0, PyData.depth, PyData.depthAll]
theorem b_zero {S : Stc} {ss : List SS} {ow : Ow} {pos : Pos} (Md : Mods S.K S.mg) (hg : IsG S "ZERO") : B S ss ow (.Name "ZERO" pos) (fr 0) := by
  obtain ⟨a, h1, h2⟩ := Md.zero
  exact b_glob (v := .ref a) hg h1 rfl h2
theorem atI_nat {ds : List PyData} {n : Int} {k : Nat} {d : PyData} (h : n = (k : Int)) (hd : ds[k]? = some d) : atI ds n = some d := by
  subst h
  have hk := (List.getElem?_eq_some_iff.mp hd).1
  unfold atI
  rw [ixN_nat hk]
  exact hd
theorem bo_none {S : Stc} {ss : List SS} {ow : Ow} : BO S ss ow none none := trivial
theorem bo_some {S : Stc} {ss : List SS} {ow : Ow} {e : Expr} {n : Int} (h : B S ss ow e (.int n)) : BO S ss ow (some e) (some n) := h
/-! ### trimmed -/
def rTrimmed (ds : List PyData) (d : PyData) : Prop := ∃ l : List Rat, ds = [.list (l.map fr)] ∧ l.length ≤ 1000 ∧ d = pq (trim l)
abbrev DTrimmed (P : Program) (w : World) (K : PySem.W.Frag) (mg : Str → Option Value) (base : Heap) := Def P w K mg base "trimmed" ["row"] 33 (spR K 1 rTrimmed)
theorem cutD_take (xs : List PyData) (k : Nat) : cutD xs none (some (k : Int)) = xs.take k := by
  unfold cutD
  rw [HT.sIx_none, HT.sIx_nat, List.drop_zero, Nat.sub_zero]
  by_cases h : k ≤ xs.length
  · rw [Nat.min_eq_left h]
  · rw [Nat.min_eq_right (by omega), List.take_of_length_le (Nat.le_refl _), List.take_of_length_le (by omega)]
theorem cutD_drop (xs : List PyData) (k : Nat) : cutD xs (some (k : Int)) none = xs.drop k := by
  unfold cutD
  rw [HT.sIx_none, HT.sIx_nat]
  by_cases h : k ≤ xs.length
  · rw [Nat.min_eq_left h, List.take_of_length_le (by rw [List.length_drop]; omega)]
  · rw [Nat.min_eq_right (by omega), List.drop_of_length_le (by omega), List.drop_of_length_le (by omega), List.take_nil]
theorem cutD_front (xs : List PyData) : cutD xs none (some (-1)) = xs.dropLast := by
  unfold cutD
  rw [HT.sIx_none, List.drop_zero, Nat.sub_zero, List.dropLast_eq_take]
  congr 1
  unfold HT.sIx
  simp only
  rw [if_pos (by omega)]
  omega
theorem ok_trimmed {f : Addr} {fd : FuncData} (F : Fun K "trimmed" "trimmed" sTrimmed f fd) (hg : mg "trimmed" = some (.ref f)) (hb : Binds K fd ["row"] []) (ba : Bas P mg base) (Md : Mods K mg) : DTrimmed P w K mg base := by
  refine fn_R F scTrimmed hg hb ba (by decide) rfl fun ds d hR _ => ?_
  obtain ⟨l, rfl, hl, rfl⟩ := hR
  have B0 := ba.b0
  show R _ [.dat (.list (l.map fr)), .any] [] _ _ _
  refine r_set (i := 1) rfl (by walk_at "loc") (d := .int (l.length : Nat)) (B.cast (b_lenL B0 (fun _ => rfl) rfl (by walk_at "bb")) (by rw [List.length_map])) (by walk_at "sw") ?_
  show R _ [.dat (.list (l.map fr)), .dat (.int (l.length : Nat))] [] _ _ _
  refine r_while (fun m ss ow => ss = [.dat (.list (l.map fr)), .dat (.int (m : Nat))] ∧ ow = [] ∧ m ≤ l.length ∧ ∀ j x, m ≤ j → l[j]? = some x → x = 0) l.length ⟨rfl, rfl, Nat.le_refl _, fun j x h1 h2 => by rw [List.getElem?_eq_none_iff.mpr h1] at h2; cases h2⟩ fun m ss ow hI => ?_
  obtain ⟨rfl, rfl, hm, hz⟩ := hI
  have hq : ∃ u : Bool, (0 < m → ∃ x, l[m - 1]? = some x ∧ u = decide (x = 0)) := by
    by_cases h : 0 < m
    · exact ⟨_, fun _ => ⟨l[m-1]'(by omega), List.getElem?_eq_getElem _, rfl⟩⟩
    · exact ⟨true, fun z => absurd z h⟩
  obtain ⟨u, hu⟩ := hq
  refine ⟨decide ((0 : Int) < m) && u, bt_w (bw_and (bt_cmp (.gt _ _) (by walk_at "bb") (by walk_at "bb") rfl) fun h => ?_), fun h => ?_, fun h => ?_⟩
  · have h : (0 : Int) < m := of_decide_eq_true h
    obtain ⟨x, hx, rfl⟩ := hu (by omega)
    rw [← eqv_fr]
    refine bw_and1 (bt_cmp (.eqD _ _ (shaped_fr _) (shaped_fr _)) (b_ixL (n := (m : Int) - 1) (by walk_at "bb") (by walk_at "bb") (atI_nat (k := m - 1) (by omega) (by rw [List.getElem?_map, hx]; rfl)) (fun _ _ => rfl)) (b_zero Md rfl) rfl)
  · rw [Bool.and_eq_true] at h
    have h1 : (0 : Int) < m := of_decide_eq_true h.1
    obtain ⟨x, hx, rfl⟩ := hu (by omega)
    have h2 : x = 0 := of_decide_eq_true h.2
    refine r_set (i := 1) rfl (by walk_at "loc") (d := .int ((m : Int) - 1)) (by walk_at "bb") (by walk_at "sw") (r_nil ⟨m - 1, by omega, ?_, rfl, by omega, fun j y hj hy => ?_⟩)
    · show [SS.dat (.list (l.map fr)), SS.dat (.int ((m : Int) - 1))] = [SS.dat (.list (l.map fr)), SS.dat (.int ((m - 1 : Nat) : Int))]
      have : ((m : Int) - 1) = ((m - 1 : Nat) : Int) := by omega
      rw [this]
    · by_cases e : j = m - 1
      · subst e; rw [hx] at hy; cases hy; exact h2
      · exact hz j y (by omega) hy
  · have ht : trim l = l.take m := trim_take l m hm hz fun x hx hm0 hx0 => by
      obtain ⟨y, hy, rfl⟩ := hu hm0
      rw [hx] at hy
      cases hy
      have : (0 : Int) < m := by omega
      rw [decide_eq_true this, decide_eq_true hx0] at h
      cases h
    refine r_ret (b_tupleL B0 (fun _ => rfl) rfl (ds := (l.map fr).take m) ?_) (by rw [ht]; exact congrArg PyData.tuple List.map_take.symm)
    exact (B.cast (bl_slice (by walk_at "bb") bo_none (bo_some (n := (m : Int)) (by walk_at "bb"))).toB (by rw [cutD_take]))
end
end Mf
end

-- text D4
section
set_option Elab.async false
set_option linter.all false
set_option autoImplicit false
set_option maxRecDepth 100000
set_option maxHeartbeats 200000
namespace Mf
open PySem PySem.Spec PyProof.Rows L2 Evl
local macro_rules | `(tactic| walk_at "ix") => `(tactic| first | (with_reducible exact .here) | (with_reducible apply Ix.there; walk_at "ix"))
local macro_rules | `(tactic| walk_at "loc") => `(tactic| (refine loc_of ?_; kernel_rfl))
local macro_rules | `(tactic| walk_at "hk") => `(tactic| exact Nat.le_of_ble_eq_true rfl)
local macro_rules | `(tactic| walk_at "rel") => `(tactic| first | exact ⟨_, rfl, rfl⟩ | exact ⟨_, _, rfl, rfl⟩ | exact ⟨_, _, _, rfl, rfl⟩ | exact ⟨_, rfl, by assumption, rfl⟩ | exact ⟨_, _, rfl, by assumption, rfl⟩ | exact ⟨_, _, rfl, by assumption, by assumption, rfl⟩)
local macro_rules | `(tactic| walk_at "sw") => `(tactic| (intro env h; first | rfl | (cases env; cases h; rfl)))
/-- an expression, its side questions -/
local macro_rules | `(tactic| walk_at "bb") => `(tactic| first
  | ((with_reducible apply b_vi) <;> first | ((with_reducible show Ix _ _ _); walk_at "ix") | ((with_reducible show visB _ _ = true); kernel_rfl) | ((with_reducible show okN _ = true); kernel_rfl) | rfl)
  | ((with_reducible apply b_int) <;> walk_at "bb")
  | ((with_reducible apply b_bool) <;> walk_at "bb")
  | ((with_reducible apply b_non) <;> walk_at "bb")
  | ((with_reducible apply b_str) <;> walk_at "bb")
  | ((with_reducible apply b_add) <;> walk_at "bb")
  | ((with_reducible apply b_sub) <;> walk_at "bb")
  | ((with_reducible apply b_mul) <;> walk_at "bb")
  | ((with_reducible apply b_mod) <;> walk_at "bb")
  | ((with_reducible apply b_fdiv) <;> walk_at "bb")
  | ((with_reducible apply b_neg) <;> walk_at "bb")
  | ((with_reducible apply b_pow) <;> walk_at "bb")
  | ((with_reducible apply b_tup) <;> walk_at "bb")
  | ((with_reducible apply b_ixT) <;> walk_at "bb")
  | ((with_reducible apply b_ixL) <;> walk_at "bb")
  | ((with_reducible apply b_abs) <;> walk_at "bb")
  | ((with_reducible apply b_lenT) <;> walk_at "bb")
  | ((with_reducible apply b_lenL) <;> walk_at "bb")
  | ((with_reducible apply b_max2) <;> walk_at "bb")
  | ((with_reducible apply b_intI) <;> walk_at "bb")
  | ((with_reducible apply b_intB) <;> walk_at "bb")
  | ((with_reducible apply b_tupleL) <;> walk_at "bb")
  | ((with_reducible apply b_all) <;> walk_at "bb")
  | ((with_reducible apply b_sum) <;> walk_at "bb")
  | ((with_reducible apply b_if) <;> walk_at "bb")
  | ((with_reducible apply b_and) <;> walk_at "bb")
  | ((with_reducible apply b_or) <;> walk_at "bb")
  | ((with_reducible apply b_not) <;> walk_at "bb")
  | ((with_reducible apply b_one) <;> walk_at "bb")
  | ((with_reducible apply b_cmp) <;> walk_at "bb")
  | ((with_reducible apply ba_nil) <;> walk_at "bb")
  | ((with_reducible apply ba_cons) <;> walk_at "bb")
  | ((with_reducible apply b_callI) <;> walk_at "bb")
  | ((with_reducible apply bt_cmp) <;> walk_at "bb")
  | ((with_reducible apply bt_not) <;> walk_at "bb")
  | ((with_reducible show IsG _ _); kernel_rfl)
  | ((with_reducible show okN _ = true); kernel_rfl)
  | (with_reducible assumption)
  | (with_reducible exact CmpD.gt _ _)
  | (with_reducible exact CmpD.lt _ _)
  | (with_reducible exact CmpD.ge _ _)
  | (with_reducible exact CmpD.le _ _)
  | (with_reducible exact CmpD.eqI _ _)
  | (with_reducible exact CmpD.neI _ _)
  | ((with_reducible show _ = _); rfl)
  | ((with_reducible show (_ : Nat) ≤ _); first | walk_at "hk" | decide)
  | (intro _; rfl)
  | (intro _ _; rfl)
  | walk_at "rel")
section
variable {P : Program} {w : World} {K : PySem.W.Frag} {mg : Str → Option Value} {base : Heap}
theorem lcRes_all {α : Type} (as : List α) (v : α → PyData) : lcRes as (fun _ => true) v = as.map v := by
  unfold lcRes
  rw [List.filter_eq_self.mpr (fun _ _ => rfl)]
/-! ### whole_of -/
def WOk (l : List Rat) : Prop := l.length ≤ 1000 ∧ (∀ c ∈ l, SF c) ∧ ∀ i, SI (lcmDen (l.take i))
def rWholeOf (ds : List PyData) (d : PyData) : Prop := ∃ l : List Rat, ds = [pq l] ∧ WOk l ∧ d = .tuple [il (whole l), .int (lcmDen l)]
abbrev DWholeOf (P : Program) (w : World) (K : PySem.W.Frag) (mg : Str → Option Value) (base : Heap) := Def P w K mg base "whole_of" ["poly"] 34 (spR K 1 rWholeOf)
theorem SI.ediv {x : Int} (h : SI x) (y : Int) : SI (x / y) := by
  obtain ⟨n, h1, h2⟩ := h
  refine ⟨n, h1, Nat.lt_of_le_of_lt (Int.natAbs_ediv_le_natAbs x y) h2⟩
theorem lcm_step {l : List Rat} {i : Nat} {c : Rat} (h : l[i]? = some c) : lcmDen (l.take (i + 1)) = lcmDen (l.take i) / (Int.gcd (lcmDen (l.take i)) c.den : Int) * c.den := by
  unfold lcmDen
  rw [List.take_add_one, h, List.foldl_append]
  rfl
theorem ok_whole_of {f : Addr} {fd : FuncData} (F : Fun K "whole_of" "whole_of" sWholeOf f fd) (hg : mg "whole_of" = some (.ref f)) (hb : Binds K fd ["poly"] []) (ba : Bas P mg base) (D1 : DCommon P w K mg base) : DWholeOf P w K mg base := by
  refine fn_R F scWholeOf hg hb ba (by decide) rfl fun ds d hR _ => ?_
  obtain ⟨l, rfl, hl, rfl⟩ := hR
  have B0 := ba.b0
  obtain ⟨hl1, hl2, hl3⟩ := hl
  show R _ [.dat (pq l), .any, .any, .any, .any] [] _ _ _
  refine r_set (i := 1) rfl (by walk_at "loc") (d := .int 1) (by walk_at "bb") (by walk_at "sw") ?_
  show R _ [.dat (pq l), .dat (.int 1), .any, .any, .any] [] _ _ _
  refine r_for (as := l) (g := fr) (bi_tup (by walk_at "bb")) (fun i ss ow => ow = [] ∧ ∃ s2 s3, ss = [.dat (pq l), .dat (.int (lcmDen (l.take i))), s2, s3, .any]) ⟨rfl, _, _, rfl⟩ (fun i ss ow h => by rw [h.1]) (fun i c ss ow hc hI => ?_) (fun ss ow hI => ?_) (fun _ _ => rfl)
  · obtain ⟨rfl, s2, s3, rfl⟩ := hI
    have hm : SI (c.den : Int) := (hl2 c (List.mem_of_getElem? hc)).2
    have hcd : (0 : Int) < (c.den : Int) := by have := c.den_pos; omega
    refine ⟨_, _, bg_pair (i := 2) (j := 3) rfl (by walk_at "loc") rfl (by walk_at "loc"), ?_⟩
    have hgp : (0 : Int) < (Int.gcd (lcmDen (l.take i)) c.den : Nat) := by
      have := Int.gcd_pos_of_ne_zero_right (lcmDen (l.take i)) (show (c.den : Int) ≠ 0 by omega)
      omega
    have m1 := SI.mul ((hl3 i).ediv (Int.gcd (lcmDen (l.take i)) c.den : Nat)) hm
    show R _ [.dat (pq l), .dat (.int (lcmDen (l.take i))), .dat (.int c.num), .dat (.int c.den), .any] [] _ _ _
    refine r_set (i := 1) rfl (by walk_at "loc") (d := .int (lcmDen (l.take i) / (Int.gcd (lcmDen (l.take i)) c.den : Nat) * c.den)) (by walk_at "bb") (by walk_at "sw") ?_
    refine r_nil ⟨rfl, .dat (.int c.num), .dat (.int c.den), ?_⟩
    rw [lcm_step hc]
    rfl
  · obtain ⟨rfl, s2, s3, rfl⟩ := hI
    rw [List.take_length]
    have hl4 : SI (lcmDen l) := by have := hl3 l.length; rwa [List.take_length] at this
    refine r_ret (b_tup (ds := [il (whole l), .int (lcmDen l)]) (ba_cons (B.cast (bl_lc (as := l) (g := fr) (f := fun _ => true) (v := fun c => .int (c.num * (lcmDen l / c.den))) [("up", 4), ("its", 3)] (by kernel_rfl) (bi_tup (by walk_at "bb")) (by omega) (fun c hc => ?_) (fun _ _ => rfl)).toB ?_) (by walk_at "bb") (fun _ => rfl)) (Nat.le_of_ble_eq_true rfl)) rfl
    · have hcd : (0 : Int) < (c.den : Int) := by have := c.den_pos; omega
      have m1 := SI.mul (hl2 c hc).1 (hl4.ediv c.den)
      refine ⟨_, [4, 3], by simp, bg_pair (i := 4) (j := 3) rfl (by walk_at "loc") rfl (by walk_at "loc"), bts_nil, fun _ => ?_⟩
      show B _ [.dat (pq l), .dat (.int (lcmDen l)), s2, .dat (.int c.den), .dat (.int c.num)] _ _ (.int (c.num * (lcmDen l / c.den)))
      walk_at "bb"
    · rw [lcRes_all]
      show PyData.list (l.map _) = PyData.list ((l.map _).map _)
      rw [List.map_map]
      rfl
end
end Mf
end

-- text D5
section
set_option Elab.async false
set_option linter.all false
set_option autoImplicit false
set_option maxRecDepth 100000
set_option maxHeartbeats 200000
namespace Mf
open PySem PySem.Spec PyProof.Rows L2 Evl
local macro_rules | `(tactic| walk_at "ix") => `(tactic| first | (with_reducible exact .here) | (with_reducible apply Ix.there; walk_at "ix"))
local macro_rules | `(tactic| walk_at "loc") => `(tactic| (refine loc_of ?_; kernel_rfl))
local macro_rules | `(tactic| walk_at "hk") => `(tactic| exact Nat.le_of_ble_eq_true rfl)
local macro_rules | `(tactic| walk_at "rel") => `(tactic| first | exact ⟨_, rfl, rfl⟩ | exact ⟨_, _, rfl, rfl⟩ | exact ⟨_, _, _, rfl, rfl⟩ | exact ⟨_, rfl, by assumption, rfl⟩ | exact ⟨_, _, rfl, by assumption, rfl⟩ | exact ⟨_, _, rfl, by assumption, by assumption, rfl⟩)
local macro_rules | `(tactic| walk_at "sw") => `(tactic| (intro env h; first | rfl | (cases env; cases h; rfl)))
/-- an expression, its side questions -/
local macro_rules | `(tactic| walk_at "bb") => `(tactic| first
  | ((with_reducible apply b_vi) <;> first | ((with_reducible show Ix _ _ _); walk_at "ix") | ((with_reducible show visB _ _ = true); kernel_rfl) | ((with_reducible show okN _ = true); kernel_rfl) | rfl)
  | ((with_reducible apply b_int) <;> walk_at "bb")
  | ((with_reducible apply b_bool) <;> walk_at "bb")
  | ((with_reducible apply b_non) <;> walk_at "bb")
  | ((with_reducible apply b_str) <;> walk_at "bb")
  | ((with_reducible apply b_add) <;> walk_at "bb")
  | ((with_reducible apply b_sub) <;> walk_at "bb")
  | ((with_reducible apply b_mul) <;> walk_at "bb")
  | ((with_reducible apply b_mod) <;> walk_at "bb")
  | ((with_reducible apply b_fdiv) <;> walk_at "bb")
  | ((with_reducible apply b_neg) <;> walk_at "bb")
  | ((with_reducible apply b_pow) <;> walk_at "bb")
  | ((with_reducible apply b_tup) <;> walk_at "bb")
  | ((with_reducible apply b_ixT) <;> walk_at "bb")
  | ((with_reducible apply b_ixL) <;> walk_at "bb")
  | ((with_reducible apply b_abs) <;> walk_at "bb")
  | ((with_reducible apply b_lenT) <;> walk_at "bb")
  | ((with_reducible apply b_lenL) <;> walk_at "bb")
  | ((with_reducible apply b_max2) <;> walk_at "bb")
  | ((with_reducible apply b_intI) <;> walk_at "bb")
  | ((with_reducible apply b_intB) <;> walk_at "bb")
  | ((with_reducible apply b_tupleL) <;> walk_at "bb")
  | ((with_reducible apply b_all) <;> walk_at "bb")
  | ((with_reducible apply b_sum) <;> walk_at "bb")
  | ((with_reducible apply b_if) <;> walk_at "bb")
  | ((with_reducible apply b_and) <;> walk_at "bb")
  | ((with_reducible apply b_or) <;> walk_at "bb")
  | ((with_reducible apply b_not) <;> walk_at "bb")
  | ((with_reducible apply b_one) <;> walk_at "bb")
  | ((with_reducible apply b_cmp) <;> walk_at "bb")
  | ((with_reducible apply ba_nil) <;> walk_at "bb")
  | ((with_reducible apply ba_cons) <;> walk_at "bb")
  | ((with_reducible apply b_callI) <;> walk_at "bb")
  | ((with_reducible apply bt_cmp) <;> walk_at "bb")
  | ((with_reducible apply bt_not) <;> walk_at "bb")
  | ((with_reducible show IsG _ _); kernel_rfl)
  | ((with_reducible show okN _ = true); kernel_rfl)
  | (with_reducible assumption)
  | (with_reducible exact CmpD.gt _ _)
  | (with_reducible exact CmpD.lt _ _)
  | (with_reducible exact CmpD.ge _ _)
  | (with_reducible exact CmpD.le _ _)
  | (with_reducible exact CmpD.eqI _ _)
  | (with_reducible exact CmpD.neI _ _)
  | ((with_reducible show _ = _); rfl)
  | ((with_reducible show (_ : Nat) ≤ _); first | walk_at "hk" | decide)
  | (intro _; rfl)
  | (intro _ _; rfl)
  | walk_at "rel")
section
variable {P : Program} {w : World} {K : PySem.W.Frag} {mg : Str → Option Value} {base : Heap}
theorem fr_nat (i : Nat) : fr ((i : Nat) : Rat) = .tuple [.int (i : Nat), .int 1] := by
  show PyData.tuple [.int ((i : Nat) : Rat).num, .int ((i : Nat) : Rat).den] = _
  rw [Rat.num_natCast, Rat.den_natCast]
  rfl
theorem SI.small {x : Int} (h : x.natAbs < 2 ^ 64) : SI x := ⟨64, Nat.le_of_ble_eq_true rfl, h⟩
theorem SF.nat {i : Nat} (h : i < 2 ^ 64) : SF ((i : Nat) : Rat) := ⟨SI.small (by rw [Rat.num_natCast]; simpa using h), SI.small (by rw [Rat.den_natCast]; decide)⟩
theorem SI.zero : SI 0 := SI.small (by decide)
theorem ba_starT {S : Stc} {ss : List SS} {ow : Ow} {e : Expr} {es : List Expr} {ds ds1 : List PyData} {p : Pos} (ha : B S ss ow e (.tuple ds1)) (hr : BA S ss ow es ds) (hs : ∀ env : Env, starEach (.Starred e p :: es) env = (true, eval e env) :: starEach es env) : BA S ss ow (.Starred e p :: es) (ds1 ++ ds) := .mk fun M0 σ H g Q q =>
  ⟨StX.tStar S.K (tE S e) (tA S es), fun X F => by have := StX.pa_star (X := X) (p := p) (pe_tE F) (pa_tA F) (hs X.env); rwa [F.K] at this, ha.run M0 σ H g _ fun v H1 e1 h1 => by
    cases h1 with
    | @tup pa xs ds' hL hd => exact ⟨pa, xs, rfl, .inl (ex_t cut_le hL), hr.run M0 σ H1 (g.ex e1) _ fun vs H2 e2 h2 => q (xs ++ vs) H2 (e1.trans e2) ((hd.mono (cut_ex e2)).append h2)⟩⟩
theorem BI.cast {S : Stc} {ss : List SS} {ow : Ow} {tg iter : Expr} {ds ds' : List PyData} (h : BI S ss ow tg iter ds) (e : ds = ds') : BI S ss ow tg iter ds' := e ▸ h
theorem atI_last {ds : List PyData} {d : PyData} (h : ds.getLast? = some d) : atI ds (-1) = some d := by
  have hne : ds ≠ [] := fun z => by rw [z] at h; cases h
  have hl : 0 < ds.length := List.length_pos_iff.mpr hne
  rw [List.getLast?_eq_getElem?] at h
  unfold atI
  have e : ixN ds.length (-1) = some (ds.length - 1) := by
    unfold ixN
    rw [if_neg (by omega), if_pos (by omega)]
    congr 1
    omega
  rw [e]
  exact h
/-! ### slope_in -/
def rSlopeIn (ds : List PyData) (d : PyData) : Prop := ∃ l : List Rat, ds = [pq l] ∧ l.length ≤ 1000 ∧ (∀ c ∈ l, SF c) ∧ d = pq (slope l)
abbrev DSlopeIn (P : Program) (w : World) (K : PySem.W.Frag) (mg : Str → Option Value) (base : Heap) := Def P w K mg base "slope_in" ["poly"] 36 (spR K 1 rSlopeIn)
theorem ok_slope_in {f : Addr} {fd : FuncData} (F : Fun K "slope_in" "slope_in" sSlopeIn f fd) (hg : mg "slope_in" = some (.ref f)) (hb : Binds K fd ["poly"] []) (ba : Bas P mg base) (D1 : DTimes P w K mg base) (D2 : DTrimmed P w K mg base) : DSlopeIn P w K mg base := by
  refine fn_R F scSlopeIn hg hb ba (by decide) rfl fun ds d hR _ => ?_
  obtain ⟨l, rfl, hl, hs, rfl⟩ := hR
  have B0 := ba.b0
  show R _ [.dat (pq l), .any, .any] [] _ _ _
  have e1 : enumD (l.map fr) = (l.mapIdx fun i c => (i, c)).map fun p => PyData.tuple [.int (p.1 : Nat), fr p.2] := by
    unfold enumD
    exact List.ext_getElem (by simp) (by intros; simp)
  refine r_ret (b_callI D2 (by walk_at "hk") (by kernel_rfl) (ds := [.list ((l.mapIdx fun i c => (i : Rat) * c).drop 1 |>.map fr)]) (ba_cons (B.cast (bl_slice (bl_lc (as := l.mapIdx fun i c => (i, c)) (f := fun _ => true) (v := fun p => fr ((p.1 : Rat) * p.2)) (g := fun p => PyData.tuple [.int (p.1 : Nat), fr p.2]) [("at", 1), ("number", 2)] (by kernel_rfl) (BI.cast (bi_enumT B0 rfl (fun _ => rfl) (by walk_at "bb")) e1) (by rw [List.length_mapIdx]; omega) (fun c hc => ?_) (fun _ _ => rfl)).toB (bo_some (n := 1) (by walk_at "bb")) bo_none).toB ?_) ba_nil (fun _ => rfl)) ⟨_, rfl, by rw [List.length_drop, List.length_mapIdx]; omega, rfl⟩ rfl (fun _ => rfl) (fun _ => rfl) (by kernel_rfl)) rfl
  · obtain ⟨i, hi, rfl⟩ := List.mem_mapIdx.mp hc
    refine ⟨_, [1, 2], by simp, bg_pair (i := 1) (j := 2) rfl (by walk_at "loc") rfl (by walk_at "loc"), bts_nil, fun _ => ?_⟩
    show B _ [.dat (pq l), .dat (.int (i : Nat)), .dat (fr l[i])] _ _ (fr (((i : Nat) : Rat) * l[i]))
    exact b_callI D1 (by walk_at "hk") (by kernel_rfl) (ds := [fr ((i : Nat) : Rat), fr l[i]]) (ba_cons (B.cast (d := .tuple [.int (i : Nat), .int 1]) (by walk_at "bb") (fr_nat i).symm) (by walk_at "bb") (fun _ => rfl)) ⟨_, _, rfl, SF.nat (Nat.lt_of_lt_of_le hi (Nat.le_trans hl (Nat.le_of_ble_eq_true rfl))), hs _ (List.getElem_mem _), rfl⟩ rfl (fun _ => rfl) (fun _ => rfl) (by kernel_rfl)
  · rw [show (1 : Int) = ((1 : Nat) : Int) from rfl, cutD_drop, lcRes_all, ← List.map_drop]
    refine congrArg PyData.list ?_
    exact List.ext_getElem (by simp) (by intros; simp)
end
end Mf
end

-- text D6
section
set_option Elab.async false
set_option linter.all false
set_option autoImplicit false
set_option maxRecDepth 100000
set_option maxHeartbeats 200000
namespace Mf
open PySem PySem.Spec PyProof.Rows L2 Evl
local macro_rules | `(tactic| walk_at "ix") => `(tactic| first | (with_reducible exact .here) | (with_reducible apply Ix.there; walk_at "ix"))
local macro_rules | `(tactic| walk_at "loc") => `(tactic| (refine loc_of ?_; kernel_rfl))
local macro_rules | `(tactic| walk_at "hk") => `(tactic| exact Nat.le_of_ble_eq_true rfl)
local macro_rules | `(tactic| walk_at "rel") => `(tactic| first | exact ⟨_, rfl, rfl⟩ | exact ⟨_, _, rfl, rfl⟩ | exact ⟨_, _, _, rfl, rfl⟩ | exact ⟨_, rfl, by assumption, rfl⟩ | exact ⟨_, _, rfl, by assumption, rfl⟩ | exact ⟨_, _, rfl, by assumption, by assumption, rfl⟩)
local macro_rules | `(tactic| walk_at "sw") => `(tactic| (intro env h; first | rfl | (cases env; cases h; rfl)))
/-- an expression, its side questions -/
local macro_rules | `(tactic| walk_at "bb") => `(tactic| first
  | ((with_reducible apply b_vi) <;> first | ((with_reducible show Ix _ _ _); walk_at "ix") | ((with_reducible show visB _ _ = true); kernel_rfl) | ((with_reducible show okN _ = true); kernel_rfl) | rfl)
  | ((with_reducible apply b_int) <;> walk_at "bb")
  | ((with_reducible apply b_bool) <;> walk_at "bb")
  | ((with_reducible apply b_non) <;> walk_at "bb")
  | ((with_reducible apply b_str) <;> walk_at "bb")
  | ((with_reducible apply b_add) <;> walk_at "bb")
  | ((with_reducible apply b_sub) <;> walk_at "bb")
  | ((with_reducible apply b_mul) <;> walk_at "bb")
  | ((with_reducible apply b_mod) <;> walk_at "bb")
  | ((with_reducible apply b_fdiv) <;> walk_at "bb")
  | ((with_reducible apply b_neg) <;> walk_at "bb")
  | ((with_reducible apply b_pow) <;> walk_at "bb")
  | ((with_reducible apply b_tup) <;> walk_at "bb")
  | ((with_reducible apply b_ixT) <;> walk_at "bb")
  | ((with_reducible apply b_ixL) <;> walk_at "bb")
  | ((with_reducible apply b_abs) <;> walk_at "bb")
  | ((with_reducible apply b_lenT) <;> walk_at "bb")
  | ((with_reducible apply b_lenL) <;> walk_at "bb")
  | ((with_reducible apply b_max2) <;> walk_at "bb")
  | ((with_reducible apply b_intI) <;> walk_at "bb")
  | ((with_reducible apply b_intB) <;> walk_at "bb")
  | ((with_reducible apply b_tupleL) <;> walk_at "bb")
  | ((with_reducible apply b_all) <;> walk_at "bb")
  | ((with_reducible apply b_sum) <;> walk_at "bb")
  | ((with_reducible apply b_if) <;> walk_at "bb")
  | ((with_reducible apply b_and) <;> walk_at "bb")
  | ((with_reducible apply b_or) <;> walk_at "bb")
  | ((with_reducible apply b_not) <;> walk_at "bb")
  | ((with_reducible apply b_one) <;> walk_at "bb")
  | ((with_reducible apply b_cmp) <;> walk_at "bb")
  | ((with_reducible apply ba_nil) <;> walk_at "bb")
  | ((with_reducible apply ba_cons) <;> walk_at "bb")
  | ((with_reducible apply b_callI) <;> walk_at "bb")
  | ((with_reducible apply bt_cmp) <;> walk_at "bb")
  | ((with_reducible apply bt_not) <;> walk_at "bb")
  | ((with_reducible show IsG _ _); kernel_rfl)
  | ((with_reducible show okN _ = true); kernel_rfl)
  | (with_reducible assumption)
  | (with_reducible exact CmpD.gt _ _)
  | (with_reducible exact CmpD.lt _ _)
  | (with_reducible exact CmpD.ge _ _)
  | (with_reducible exact CmpD.le _ _)
  | (with_reducible exact CmpD.eqI _ _)
  | (with_reducible exact CmpD.neI _ _)
  | ((with_reducible show _ = _); rfl)
  | ((with_reducible show (_ : Nat) ≤ _); first | walk_at "hk" | decide)
  | (intro _; rfl)
  | (intro _ _; rfl)
  | walk_at "rel")
section
variable {P : Program} {w : World} {K : PySem.W.Frag} {mg : Str → Option Value} {base : Heap}
/-! ### need_poly -/
/-- a polynomial as it may be told -/
def RepP (v : PyData) (l : List Rat) : Prop := ∃ as : List (PyData × Rat), (∀ p ∈ as, RepF p.1 p.2) ∧ (v = .list (as.map (·.1)) ∨ v = .tuple (as.map (·.1))) ∧ l = as.map (·.2) ∧ as.length ≤ 80
def rNeedPoly (ds : List PyData) (d : PyData) : Prop := ∃ v l z, ds = [v, .str z] ∧ RepP v l ∧ d = pq (trim l)
abbrev DNeedPoly (P : Program) (w : World) (K : PySem.W.Frag) (mg : Str → Option Value) (base : Heap) := Def P w K mg base "need_poly" ["value", "part"] 36 (spR K 2 rNeedPoly)
theorem b_most {S : Stc} {ss : List SS} {ow : Ow} {pos : Pos} (Md : Mods S.K S.mg) (hg : IsG S "MOST_NUMBERS") : B S ss ow (.Name "MOST_NUMBERS" pos) (.int 80) := by
  obtain ⟨n, h1⟩ := Md.most
  exact b_glob (v := .int 80) hg h1 ⟨n, rfl⟩ (.int 80)
theorem all_true {α : Type} (as : List α) : (as.map fun _ => true).all id = true := by
  induction as with
  | nil => rfl
  | cons a as ih => rw [List.map_cons, List.all_cons, ih]; rfl
theorem ok_need_poly {f : Addr} {fd : FuncData} (F : Fun K "need_poly" "need_poly" sNeedPoly f fd) (hg : mg "need_poly" = some (.ref f)) (hb : Binds K fd ["value", "part"] []) (ba : Bas P mg base) (Md : Mods K mg) (D1 : DIsFraction P w K mg base) (D2 : DAsPair P w K mg base) (D3 : DTrimmed P w K mg base) : DNeedPoly P w K mg base := by
  refine fn_R F scNeedPoly hg hb ba (by decide) rfl fun ds d hR _ => ?_
  obtain ⟨v, l, z, rfl, ⟨as, has, hv, rfl, hl⟩, rfl⟩ := hR
  have B0 := ba.b0
  show R _ [.dat v, .dat (.str z), .any] [] _ _ _
  rcases hv with rfl | rfl
  · refine r_if (bt_w (bw_or (bt_not (bt_val (b_isSeq B0 (fun _ => rfl) rfl rfl rfl (by walk_at "bb")) fun _ _ => rfl)) fun _ => bw_or1 (bt_cmp (.gt _ _) (B.cast (b_lenL B0 (fun _ => rfl) rfl (by walk_at "bb")) (by rw [List.length_map])) (b_most Md rfl) rfl))) (fun h => ?_) fun _ => r_nil ?_
    · have h : decide ((80 : Int) < (as.length : Nat)) = true := h
      have := of_decide_eq_true h
      omega
    refine r_if (t := false) (bt_not (t := true) (bt_val (B.cast (b_all B0 (fun _ => rfl) rfl (bs := as.map fun _ => true) (B.cast (bl_lc (as := as) (g := (·.1)) (f := fun _ => true) (v := fun _ => .bool true) [("each", 2)] (by kernel_rfl) (bi_list (by walk_at "bb")) (by omega) (fun c hc => ?_) (fun _ _ => rfl)).toB ?_)) (by rw [all_true])) fun _ _ => rfl)) (fun h => by cases h) fun _ => r_nil ?_
    · refine ⟨_, [2], by simp, bg_name (i := 2) rfl (by walk_at "loc"), bts_nil, fun _ => ?_⟩
      show B _ [.dat (.list (as.map (·.1))), .dat (.str z), .dat c.1] _ _ (.bool true)
      exact b_callI D1 (by walk_at "hk") (by kernel_rfl) (ds := [c.1]) (by walk_at "bb") ⟨_, _, rfl, has c hc, rfl⟩ rfl (fun _ => rfl) (fun _ => rfl) (by kernel_rfl)
    · rw [lcRes_all, List.map_map]; rfl
    refine r_ret (b_callI D3 (by walk_at "hk") (by kernel_rfl) (ds := [.list ((as.map (·.2)).map fr)]) (ba_cons (B.cast (bl_lc (as := as) (g := (·.1)) (f := fun _ => true) (v := fun p => fr p.2) [("each", 2)] (by kernel_rfl) (bi_list (by walk_at "bb")) (by omega) (fun c hc => ?_) (fun _ _ => rfl)).toB ?_) ba_nil (fun _ => rfl)) ⟨_, rfl, by rw [List.length_map]; omega, rfl⟩ rfl (fun _ => rfl) (fun _ => rfl) (by kernel_rfl)) rfl
    · refine ⟨_, [2], by simp, bg_name (i := 2) rfl (by walk_at "loc"), bts_nil, fun _ => ?_⟩
      show B _ [.dat (.list (as.map (·.1))), .dat (.str z), .dat c.1] _ _ (fr c.2)
      exact b_callI D2 (by walk_at "hk") (by kernel_rfl) (ds := [c.1]) (by walk_at "bb") ⟨_, _, rfl, has c hc, rfl⟩ rfl (fun _ => rfl) (fun _ => rfl) (by kernel_rfl)
    · rw [lcRes_all, List.map_map]; rfl
  · refine r_if (bt_w (bw_or (bt_not (bt_val (b_isSeq B0 (fun _ => rfl) rfl rfl rfl (by walk_at "bb")) fun _ _ => rfl)) fun _ => bw_or1 (bt_cmp (.gt _ _) (B.cast (b_lenT B0 (fun _ => rfl) rfl (by walk_at "bb")) (by rw [List.length_map])) (b_most Md rfl) rfl))) (fun h => ?_) fun _ => r_nil ?_
    · have h : decide ((80 : Int) < (as.length : Nat)) = true := h
      have := of_decide_eq_true h
      omega
    refine r_if (t := false) (bt_not (t := true) (bt_val (B.cast (b_all B0 (fun _ => rfl) rfl (bs := as.map fun _ => true) (B.cast (bl_lc (as := as) (g := (·.1)) (f := fun _ => true) (v := fun _ => .bool true) [("each", 2)] (by kernel_rfl) (bi_tup (by walk_at "bb")) (by omega) (fun c hc => ?_) (fun _ _ => rfl)).toB ?_)) (by rw [all_true])) fun _ _ => rfl)) (fun h => by cases h) fun _ => r_nil ?_
    · refine ⟨_, [2], by simp, bg_name (i := 2) rfl (by walk_at "loc"), bts_nil, fun _ => ?_⟩
      show B _ [.dat (.tuple (as.map (·.1))), .dat (.str z), .dat c.1] _ _ (.bool true)
      exact b_callI D1 (by walk_at "hk") (by kernel_rfl) (ds := [c.1]) (by walk_at "bb") ⟨_, _, rfl, has c hc, rfl⟩ rfl (fun _ => rfl) (fun _ => rfl) (by kernel_rfl)
    · rw [lcRes_all, List.map_map]; rfl
    refine r_ret (b_callI D3 (by walk_at "hk") (by kernel_rfl) (ds := [.list ((as.map (·.2)).map fr)]) (ba_cons (B.cast (bl_lc (as := as) (g := (·.1)) (f := fun _ => true) (v := fun p => fr p.2) [("each", 2)] (by kernel_rfl) (bi_tup (by walk_at "bb")) (by omega) (fun c hc => ?_) (fun _ _ => rfl)).toB ?_) ba_nil (fun _ => rfl)) ⟨_, rfl, by rw [List.length_map]; omega, rfl⟩ rfl (fun _ => rfl) (fun _ => rfl) (by kernel_rfl)) rfl
    · refine ⟨_, [2], by simp, bg_name (i := 2) rfl (by walk_at "loc"), bts_nil, fun _ => ?_⟩
      show B _ [.dat (.tuple (as.map (·.1))), .dat (.str z), .dat c.1] _ _ (fr c.2)
      exact b_callI D2 (by walk_at "hk") (by kernel_rfl) (ds := [c.1]) (by walk_at "bb") ⟨_, _, rfl, has c hc, rfl⟩ rfl (fun _ => rfl) (fun _ => rfl) (by kernel_rfl)
    · rw [lcRes_all, List.map_map]; rfl
end
end Mf
end

-- text D7
section
set_option Elab.async false
set_option linter.all false
set_option autoImplicit false
set_option maxRecDepth 100000
set_option maxHeartbeats 200000
namespace Mf
open PySem PySem.Spec PyProof.Rows L2 Evl
local macro_rules | `(tactic| walk_at "ix") => `(tactic| first | (with_reducible exact .here) | (with_reducible apply Ix.there; walk_at "ix"))
local macro_rules | `(tactic| walk_at "loc") => `(tactic| (refine loc_of ?_; kernel_rfl))
local macro_rules | `(tactic| walk_at "hk") => `(tactic| exact Nat.le_of_ble_eq_true rfl)
local macro_rules | `(tactic| walk_at "rel") => `(tactic| first | exact ⟨_, rfl, rfl⟩ | exact ⟨_, _, rfl, rfl⟩ | exact ⟨_, _, _, rfl, rfl⟩ | exact ⟨_, rfl, by assumption, rfl⟩ | exact ⟨_, _, rfl, by assumption, rfl⟩ | exact ⟨_, _, rfl, by assumption, by assumption, rfl⟩)
local macro_rules | `(tactic| walk_at "sw") => `(tactic| (intro env h; first | rfl | (cases env; cases h; rfl)))
/-- an expression, its side questions -/
local macro_rules | `(tactic| walk_at "bb") => `(tactic| first
  | ((with_reducible apply b_vi) <;> first | ((with_reducible show Ix _ _ _); walk_at "ix") | ((with_reducible show visB _ _ = true); kernel_rfl) | ((with_reducible show okN _ = true); kernel_rfl) | rfl)
  | ((with_reducible apply b_int) <;> walk_at "bb")
  | ((with_reducible apply b_bool) <;> walk_at "bb")
  | ((with_reducible apply b_non) <;> walk_at "bb")
  | ((with_reducible apply b_str) <;> walk_at "bb")
  | ((with_reducible apply b_add) <;> walk_at "bb")
  | ((with_reducible apply b_sub) <;> walk_at "bb")
  | ((with_reducible apply b_mul) <;> walk_at "bb")
  | ((with_reducible apply b_mod) <;> walk_at "bb")
  | ((with_reducible apply b_fdiv) <;> walk_at "bb")
  | ((with_reducible apply b_neg) <;> walk_at "bb")
  | ((with_reducible apply b_pow) <;> walk_at "bb")
  | ((with_reducible apply b_tup) <;> walk_at "bb")
  | ((with_reducible apply b_ixT) <;> walk_at "bb")
  | ((with_reducible apply b_ixL) <;> walk_at "bb")
  | ((with_reducible apply b_abs) <;> walk_at "bb")
  | ((with_reducible apply b_lenT) <;> walk_at "bb")
  | ((with_reducible apply b_lenL) <;> walk_at "bb")
  | ((with_reducible apply b_max2) <;> walk_at "bb")
  | ((with_reducible apply b_intI) <;> walk_at "bb")
  | ((with_reducible apply b_intB) <;> walk_at "bb")
  | ((with_reducible apply b_tupleL) <;> walk_at "bb")
  | ((with_reducible apply b_all) <;> walk_at "bb")
  | ((with_reducible apply b_sum) <;> walk_at "bb")
  | ((with_reducible apply b_if) <;> walk_at "bb")
  | ((with_reducible apply b_and) <;> walk_at "bb")
  | ((with_reducible apply b_or) <;> walk_at "bb")
  | ((with_reducible apply b_not) <;> walk_at "bb")
  | ((with_reducible apply b_one) <;> walk_at "bb")
  | ((with_reducible apply b_cmp) <;> walk_at "bb")
  | ((with_reducible apply ba_nil) <;> walk_at "bb")
  | ((with_reducible apply ba_cons) <;> walk_at "bb")
  | ((with_reducible apply b_callI) <;> walk_at "bb")
  | ((with_reducible apply bt_cmp) <;> walk_at "bb")
  | ((with_reducible apply bt_not) <;> walk_at "bb")
  | ((with_reducible show IsG _ _); kernel_rfl)
  | ((with_reducible show okN _ = true); kernel_rfl)
  | (with_reducible assumption)
  | (with_reducible exact CmpD.gt _ _)
  | (with_reducible exact CmpD.lt _ _)
  | (with_reducible exact CmpD.ge _ _)
  | (with_reducible exact CmpD.le _ _)
  | (with_reducible exact CmpD.eqI _ _)
  | (with_reducible exact CmpD.neI _ _)
  | ((with_reducible show _ = _); rfl)
  | ((with_reducible show (_ : Nat) ≤ _); first | walk_at "hk" | decide)
  | (intro _; rfl)
  | (intro _ _; rfl)
  | walk_at "rel")
section
variable {P : Program} {w : World} {K : PySem.W.Frag} {mg : Str → Option Value} {base : Heap}
/-! ### parted_in -/
def pby (other rest : List Rat) : Rat := rest.getLastD 0 / other.getLastD 0
inductive PRun (other : List Rat) : List Rat → Prop where
  | done {rest : List Rat} (h : rest.length < other.length) : PRun other rest
  | step {rest : List Rat} (h : other.length ≤ rest.length) (h1 : ∀ c ∈ rest, SF c) (h2 : SF (pby other rest)) (h3 : ∀ c ∈ other, SF (pby other rest * c)) (k : PRun other (pstep other rest)) : PRun other rest
def rPartedIn (ds : List PyData) (d : PyData) : Prop := ∃ one other : List Rat, ds = [pq one, pq other] ∧ other ≠ [] ∧ other.getLastD 0 ≠ 0 ∧ one.length ≤ 200 ∧ other.length ≤ 200 ∧ (∀ c ∈ other, SF c) ∧ PRun other one ∧ d = .tuple [pq (parted one other).1, pq (parted one other).2]
abbrev DPartedIn (P : Program) (w : World) (K : PySem.W.Frag) (mg : Str → Option Value) (base : Heap) := Def P w K mg base "parted_in" ["one", "other"] 37 (spR K 2 rPartedIn)
theorem last_fr {l : List Rat} (h : l ≠ []) : (l.map fr).getLast? = some (fr (l.getLastD 0)) := by
  rw [List.getLast?_map, List.getLastD_eq_getLast?]
  cases e : l.getLast? with
  | none => exact absurd (List.getLast?_eq_none_iff.mp e) h
  | some x => rfl
theorem ends_eq (by_ : Rat) (a b : List Rat) : (List.zip a b).map (fun p => fr (p.1 - by_ * p.2)) = (List.zipWith (fun m i => m - by_ * i) a b).map fr := by
  rw [List.zip, List.map_zipWith, List.map_zipWith]
theorem ok_parted_in {f : Addr} {fd : FuncData} (F : Fun K "parted_in" "parted_in" sPartedIn f fd) (hg : mg "parted_in" = some (.ref f)) (hb : Binds K fd ["one", "other"] []) (ba : Bas P mg base) (Md : Mods K mg) (D1 : DOver P w K mg base) (D2 : DMinus P w K mg base) (D3 : DTimes P w K mg base) (D4 : DTrimmed P w K mg base) : DPartedIn P w K mg base := by
  refine fn_R F scPartedIn hg hb ba (by decide) rfl fun ds d hR _ => ?_
  obtain ⟨one, other, rfl, ho0, ho1, hl1, hl2, hs2, hrun, rfl⟩ := hR
  have B0 := ba.b0
  have hol : 0 < other.length := List.length_pos_iff.mpr ho0
  show R _ [.dat (pq one), .dat (pq other), .any, .any, .any, .any, .any, .any, .any] [] _ _ _
  refine r_parL2 (i := 2) (j := 3) (ds := (List.replicate (one.length + 1 - other.length) (0 : Rat)).map fr) rfl rfl (by decide) rfl rfl (by walk_at "bb") ?_ (by walk_at "sw") (by walk_at "sw") (fun _ => rfl) (fun _ => rfl) fun l => ?_
  · have e : (List.replicate (one.length + 1 - other.length) (0 : Rat)).map fr = (List.replicate (max (0 : Int) ((one.length : Int) - (other.length : Int) + 1)).toNat [fr 0]).flatten := by
      have h1 : (max (0 : Int) ((one.length : Int) - (other.length : Int) + 1)).toNat = one.length + 1 - other.length := by omega
      rw [h1, List.map_replicate]
      generalize one.length + 1 - other.length = n
      induction n with
      | zero => rfl
      | succ n ih => rw [List.replicate_succ, List.replicate_succ, List.flatten_cons, ← ih]; rfl
    rw [e]
    exact bl_rep (bl_lst (ba_cons (b_zero Md rfl) ba_nil (fun _ => rfl)) (Nat.le_of_ble_eq_true rfl)) (b_max2 B0 (fun _ => rfl) (fun _ => rfl) rfl (by walk_at "bb") (b_add (b_sub (B.cast (b_lenT B0 (fun _ => rfl) rfl (by walk_at "bb")) (by rw [List.length_map])) (B.cast (b_lenT B0 (fun _ => rfl) rfl (by walk_at "bb")) (by rw [List.length_map]))) (by walk_at "bb"))) (by omega) (Nat.le_of_ble_eq_true rfl)
  refine r_while (fun m ss ow => ∃ quo rest s4 s5 s6, m = rest.length ∧ ss = [.dat (pq one), .dat (pq other), .dat (pq rest), .adr l, s4, s5, s6, .any, .any] ∧ ow = [(l, quo.map fr)] ∧ rest.length ≤ one.length ∧ quo.length = one.length + 1 - other.length ∧ PRun other rest ∧ ploop other quo rest = parted one other) one.length
    ⟨_, one, .any, .any, .any, rfl, rfl, rfl, Nat.le_refl _, List.length_replicate .., hrun, rfl⟩ fun m ss ow hI => ?_
  obtain ⟨quo, rest, s4, s5, s6, rfl, rfl, rfl, hrl, hql, hrn, hpl⟩ := hI
  refine ⟨_, bt_cmp (.ge (rest.length : Int) (other.length : Int)) (B.cast (b_lenT B0 (fun _ => rfl) rfl (by walk_at "bb")) (by rw [List.length_map])) (B.cast (b_lenT B0 (fun _ => rfl) rfl (by walk_at "bb")) (by rw [List.length_map])) rfl, fun h => ?_, fun h => ?_⟩
  · have h : (other.length : Int) ≤ rest.length := of_decide_eq_true h
    have hlen : other.length ≤ rest.length := by omega
    have hr0 : rest ≠ [] := fun z => by rw [z, List.length_nil] at hlen; omega
    cases hrn with
    | done h => omega
    | step _ h1 h2 h3 k =>
    have hlast : SF (rest.getLastD 0) := by
      refine h1 _ ?_
      rw [List.getLastD_eq_getLast?, List.getLast?_eq_some_getLast hr0]
      exact List.getLast_mem hr0
    have holast : SF (other.getLastD 0) := by
      refine hs2 _ ?_
      rw [List.getLastD_eq_getLast?, List.getLast?_eq_some_getLast ho0]
      exact List.getLast_mem ho0
    refine r_asg (d := .tuple [.int ((rest.length - other.length : Nat) : Int), fr (pby other rest)]) (b_tup (ba_cons (B.cast (b_sub (B.cast (b_lenT B0 (fun _ => rfl) rfl (by walk_at "bb")) (by rw [List.length_map])) (B.cast (b_lenT B0 (fun _ => rfl) rfl (by walk_at "bb")) (by rw [List.length_map]))) (congrArg PyData.int (by omega))) (ba_cons ?_ ba_nil (fun _ => rfl)) (fun _ => rfl)) (Nat.le_of_ble_eq_true rfl)) (bg_pair (i := 4) (j := 5) rfl (by walk_at "loc") rfl (by walk_at "loc")) (by walk_at "sw") (by walk_at "sw") (fun _ => rfl) ?_
    · exact b_callI D1 (by walk_at "hk") (by kernel_rfl) (ds := [fr (rest.getLastD 0), fr (other.getLastD 0)]) (ba_cons (b_ixT (by walk_at "bb") (b_neg (by walk_at "bb")) (atI_last (last_fr hr0)) (fun _ _ => rfl)) (ba_cons (b_ixT (by walk_at "bb") (b_neg (by walk_at "bb")) (atI_last (last_fr ho0)) (fun _ _ => rfl)) ba_nil (fun _ => rfl)) (fun _ => rfl)) ⟨_, _, rfl, hlast, holast, ho1, rfl⟩ rfl (fun _ => rfl) (fun _ => rfl) (by kernel_rfl)
    have hq : rest.length - other.length < quo.length := by omega
    show R _ [.dat (pq one), .dat (pq other), .dat (pq rest), .adr l, .dat (.int ((rest.length - other.length : Nat) : Int)), .dat (fr (pby other rest)), s6, .any, .any] _ _ _ _
    refine r_setO (i := 3) (n := ((rest.length - other.length : Nat) : Int)) (j := rest.length - other.length) (d := fr (pby other rest)) rfl rfl (vis_of (by kernel_rfl)) (by walk_at "bb") (by walk_at "bb") (ixN_nat (by rw [List.length_map]; exact hq)) (fun _ _ => rfl) (by walk_at "sw") (by walk_at "sw") (fun _ => rfl) ?_
    rw [← List.map_set]
    refine r_setLc (i := 6) (as := List.zip (rest.drop (rest.length - other.length)) other) (f := fun _ => true) (v := fun p => fr (p.1 - pby other rest * p.2)) (g := fun p => PyData.tuple [fr p.1, fr p.2]) [("mine", 7), ("its", 8)] (by kernel_rfl) rfl rfl (by walk_at "sw") (BI.cast (bi_zipT B0 rfl (fun _ => rfl) (fun _ => rfl) (b_sliceT (by walk_at "bb") (bo_some (by walk_at "bb")) bo_none) (by walk_at "bb")) ?_) (by rw [List.length_zip]; omega) (fun c hc => ?_) (fun _ _ => rfl) ?_
    · rw [cutD_drop, ← List.map_drop, List.zipWith_map, List.zip, List.map_zipWith]
    · obtain ⟨x, y⟩ := c
      obtain ⟨hx, hy⟩ := List.of_mem_zip hc
      refine ⟨_, [7, 8], by simp, bg_pair (i := 7) (j := 8) rfl (by walk_at "loc") rfl (by walk_at "loc"), bts_nil, fun _ => ?_⟩
      show B _ [.dat (pq one), .dat (pq other), .dat (pq rest), .adr l, .dat (.int ((rest.length - other.length : Nat) : Int)), .dat (fr (pby other rest)), s6, .dat (fr x), .dat (fr y)] _ _ (fr (x - pby other rest * y))
      exact b_callI D2 (by walk_at "hk") (by kernel_rfl) (ds := [fr x, fr (pby other rest * y)]) (ba_cons (by walk_at "bb") (ba_cons (b_callI D3 (by walk_at "hk") (by kernel_rfl) (ds := [fr (pby other rest), fr y]) (by walk_at "bb") ⟨_, _, rfl, h2, hs2 _ hy, rfl⟩ rfl (fun _ => rfl) (fun _ => rfl) (by kernel_rfl)) ba_nil (fun _ => rfl)) (fun _ => rfl)) ⟨_, _, rfl, h1 _ (List.mem_of_mem_drop hx), h3 _ hy, rfl⟩ rfl (fun _ => rfl) (fun _ => rfl) (by kernel_rfl)
    rw [lcRes_all, ends_eq]
    show R _ [.dat (pq one), .dat (pq other), .dat (pq rest), .adr l, .dat (.int ((rest.length - other.length : Nat) : Int)), .dat (fr (pby other rest)), .dat (.list ((List.zipWith (fun m i => m - pby other rest * i) (rest.drop (rest.length - other.length)) other).map fr)), .any, .any] _ _ _ _
    refine r_set (i := 2) (d := pq (pstep other rest)) rfl (by walk_at "loc") (b_callI D4 (by walk_at "hk") (by kernel_rfl) (ds := [.list ((rest.take (rest.length - other.length) ++ (List.zipWith (fun m i => m - pby other rest * i) (rest.drop (rest.length - other.length)) other).dropLast).map fr)]) (ba_cons ?_ ba_nil (fun _ => rfl)) ⟨_, rfl, ?_, rfl⟩ rfl (fun _ => rfl) (fun _ => rfl) (by kernel_rfl)) (by walk_at "sw") ?_
    · refine B.cast (bl_lst (ba_starT (b_sliceT (by walk_at "bb") bo_none (bo_some (by walk_at "bb"))) (ba_starL (bl_slice (by walk_at "bb") bo_none (bo_some (b_neg (by walk_at "bb")))).toB ba_nil (fun _ => rfl)) (fun _ => rfl)) ?_).toB ?_
      · rw [cutD_take, cutD_front]
        simp only [List.length_append, List.length_take, List.length_map, List.length_dropLast, List.length_zipWith, List.length_drop, List.length_nil]
        omega
      · rw [cutD_take, cutD_front, List.append_nil, List.map_append, List.map_take, List.map_dropLast]
    · simp only [List.length_append, List.length_take, List.length_dropLast, List.length_zipWith, List.length_drop]
      omega
    refine r_nil ⟨(pstep other rest).length, pstep_len ho0 hlen, _, pstep other rest, _, _, _, rfl, rfl, rfl, ?_, ?_, k, ?_⟩
    · have := pstep_len ho0 hlen
      omega
    · rw [List.length_set]; exact hql
    · rw [← hpl]
      conv => rhs; rw [ploop]
      rw [dif_pos ⟨ho0, hlen⟩]
      rfl
  · have h : ¬ (other.length : Int) ≤ rest.length := of_decide_eq_false h
    refine r_free (i := 3) rfl (r_ret (b_tup (ds := [pq (trim quo), pq rest]) (ba_cons (b_callI D4 (by walk_at "hk") (by kernel_rfl) (ds := [.list (quo.map fr)]) (by walk_at "bb") ⟨_, rfl, by omega, rfl⟩ rfl (fun _ => rfl) (fun _ => rfl) (by kernel_rfl)) (by walk_at "bb") (fun _ => rfl)) (Nat.le_of_ble_eq_true rfl)) ?_)
    rw [← hpl, ploop, dif_neg (fun z => h (by have := z.2; omega))]
end
end Mf
end

-- text D8
section
set_option Elab.async false
set_option linter.all false
set_option autoImplicit false
set_option maxRecDepth 100000
set_option maxHeartbeats 200000
namespace Mf
open PySem PySem.Spec PyProof.Rows L2 Evl
local macro_rules | `(tactic| walk_at "ix") => `(tactic| first | (with_reducible exact .here) | (with_reducible apply Ix.there; walk_at "ix"))
local macro_rules | `(tactic| walk_at "loc") => `(tactic| (refine loc_of ?_; kernel_rfl))
local macro_rules | `(tactic| walk_at "hk") => `(tactic| exact Nat.le_of_ble_eq_true rfl)
local macro_rules | `(tactic| walk_at "rel") => `(tactic| first | exact ⟨_, rfl, rfl⟩ | exact ⟨_, _, rfl, rfl⟩ | exact ⟨_, _, _, rfl, rfl⟩ | exact ⟨_, rfl, by assumption, rfl⟩ | exact ⟨_, _, rfl, by assumption, rfl⟩ | exact ⟨_, _, rfl, by assumption, by assumption, rfl⟩)
local macro_rules | `(tactic| walk_at "sw") => `(tactic| (intro env h; first | rfl | (cases env; cases h; rfl)))
/-- an expression, its side questions -/
local macro_rules | `(tactic| walk_at "bb") => `(tactic| first
  | ((with_reducible apply b_vi) <;> first | ((with_reducible show Ix _ _ _); walk_at "ix") | ((with_reducible show visB _ _ = true); kernel_rfl) | ((with_reducible show okN _ = true); kernel_rfl) | rfl)
  | ((with_reducible apply b_int) <;> walk_at "bb")
  | ((with_reducible apply b_bool) <;> walk_at "bb")
  | ((with_reducible apply b_non) <;> walk_at "bb")
  | ((with_reducible apply b_str) <;> walk_at "bb")
  | ((with_reducible apply b_add) <;> walk_at "bb")
  | ((with_reducible apply b_sub) <;> walk_at "bb")
  | ((with_reducible apply b_mul) <;> walk_at "bb")
  | ((with_reducible apply b_mod) <;> walk_at "bb")
  | ((with_reducible apply b_fdiv) <;> walk_at "bb")
  | ((with_reducible apply b_neg) <;> walk_at "bb")
  | ((with_reducible apply b_pow) <;> walk_at "bb")
  | ((with_reducible apply b_tup) <;> walk_at "bb")
  | ((with_reducible apply b_ixT) <;> walk_at "bb")
  | ((with_reducible apply b_ixL) <;> walk_at "bb")
  | ((with_reducible apply b_abs) <;> walk_at "bb")
  | ((with_reducible apply b_lenT) <;> walk_at "bb")
  | ((with_reducible apply b_lenL) <;> walk_at "bb")
  | ((with_reducible apply b_max2) <;> walk_at "bb")
  | ((with_reducible apply b_intI) <;> walk_at "bb")
  | ((with_reducible apply b_intB) <;> walk_at "bb")
  | ((with_reducible apply b_tupleL) <;> walk_at "bb")
  | ((with_reducible apply b_all) <;> walk_at "bb")
  | ((with_reducible apply b_sum) <;> walk_at "bb")
  | ((with_reducible apply b_if) <;> walk_at "bb")
  | ((with_reducible apply b_and) <;> walk_at "bb")
  | ((with_reducible apply b_or) <;> walk_at "bb")
  | ((with_reducible apply b_not) <;> walk_at "bb")
  | ((with_reducible apply b_one) <;> walk_at "bb")
  | ((with_reducible apply b_cmp) <;> walk_at "bb")
  | ((with_reducible apply ba_nil) <;> walk_at "bb")
  | ((with_reducible apply ba_cons) <;> walk_at "bb")
  | ((with_reducible apply b_callI) <;> walk_at "bb")
  | ((with_reducible apply bt_cmp) <;> walk_at "bb")
  | ((with_reducible apply bt_not) <;> walk_at "bb")
  | ((with_reducible show IsG _ _); kernel_rfl)
  | ((with_reducible show okN _ = true); kernel_rfl)
  | (with_reducible assumption)
  | (with_reducible exact CmpD.gt _ _)
  | (with_reducible exact CmpD.lt _ _)
  | (with_reducible exact CmpD.ge _ _)
  | (with_reducible exact CmpD.le _ _)
  | (with_reducible exact CmpD.eqI _ _)
  | (with_reducible exact CmpD.neI _ _)
  | ((with_reducible show _ = _); rfl)
  | ((with_reducible show (_ : Nat) ≤ _); first | walk_at "hk" | decide)
  | (intro _; rfl)
  | (intro _ _; rfl)
  | walk_at "rel")
section
variable {P : Program} {w : World} {K : PySem.W.Frag} {mg : Str → Option Value} {base : Heap}
/-! ### lessened -/
def rLessened (ds : List PyData) (d : PyData) : Prop := ∃ l : List Int, ds = [il l] ∧ l.length ≤ 1000 ∧ d = il (less l)
abbrev DLessened (P : Program) (w : World) (K : PySem.W.Frag) (mg : Str → Option Value) (base : Heap) := Def P w K mg base "lessened" ["numbers"] 34 (spR K 1 rLessened)
theorem gcd_step {l : List Int} {i : Nat} {c : Int} (h : l[i]? = some c) : gcdAll (l.take (i + 1)) = Int.gcd (gcdAll (l.take i) : Nat) c := by
  unfold gcdAll
  rw [List.take_add_one, h, List.foldl_append]
  rfl
theorem ok_lessened {f : Addr} {fd : FuncData} (F : Fun K "lessened" "lessened" sLessened f fd) (hg : mg "lessened" = some (.ref f)) (hb : Binds K fd ["numbers"] []) (ba : Bas P mg base) (D1 : DCommon P w K mg base) : DLessened P w K mg base := by
  refine fn_R F scLessened hg hb ba (by decide) rfl fun ds d hR _ => ?_
  obtain ⟨l, rfl, hl, rfl⟩ := hR
  have B0 := ba.b0
  show R _ [.dat (il l), .any, .any] [] _ _ _
  refine r_set (i := 1) rfl (by walk_at "loc") (d := .int 0) (by walk_at "bb") (by walk_at "sw") ?_
  refine r_for (as := l) (g := .int) (bi_list (by walk_at "bb")) (fun i ss ow => ow = [] ∧ ∃ s2, ss = [.dat (il l), .dat (.int (gcdAll (l.take i) : Nat)), s2]) ⟨rfl, _, rfl⟩ (fun i ss ow h => by rw [h.1]) (fun i c ss ow hc hI => ?_) (fun ss ow hI => ?_) (fun _ _ => rfl)
  · obtain ⟨rfl, s2, rfl⟩ := hI
    refine ⟨_, _, bg_name (i := 2) rfl (by walk_at "loc"), ?_⟩
    show R _ [.dat (il l), .dat (.int (gcdAll (l.take i) : Nat)), .dat (.int c)] _ _ _ _
    refine r_set (i := 1) rfl (by walk_at "loc") (d := .int (Int.gcd (gcdAll (l.take i) : Nat) c : Nat)) (by walk_at "bb") (by walk_at "sw") (r_nil ⟨rfl, .dat (.int c), ?_⟩)
    rw [gcd_step hc]
    rfl
  · obtain ⟨rfl, s2, rfl⟩ := hI
    rw [List.take_length]
    refine r_ret (d := il (less l)) (b_if (bt_cmp (.gt (gcdAll l : Nat) 1) (by walk_at "bb") (by walk_at "bb") rfl) (fun h => ?_) fun h => ?_) rfl
    · have h : (1 : Int) < (gcdAll l : Nat) := of_decide_eq_true h
      have hp : (0 : Int) < (gcdAll l : Nat) := by omega
      refine B.cast (bl_lc (as := l) (g := .int) (f := fun _ => true) (v := fun c => .int (c / (gcdAll l : Nat))) [("number", 2)] (by kernel_rfl) (bi_list (by walk_at "bb")) (by omega) (fun c hc => ?_) (fun _ _ => rfl)).toB ?_
      · refine ⟨_, [2], by simp, bg_name (i := 2) rfl (by walk_at "loc"), bts_nil, fun _ => ?_⟩
        show B _ [.dat (il l), .dat (.int (gcdAll l : Nat)), .dat (.int c)] _ _ (.int (c / (gcdAll l : Nat)))
        walk_at "bb"
      · rw [lcRes_all]
        unfold less
        rw [if_pos (by omega)]
        show PyData.list (l.map _) = PyData.list ((l.map _).map _)
        rw [List.map_map]
        rfl
    · have h : ¬ (1 : Int) < (gcdAll l : Nat) := of_decide_eq_false h
      refine B.cast (bl_list B0 (fun _ => rfl) rfl (ds := l.map .int) (by walk_at "bb")).toB ?_
      unfold less
      rw [if_neg (by omega)]
/-! ### turned_rest -/
inductive TRun (other : List Int) : List Int → Prop where
  | done {rest : List Int} (h : rest.length < other.length) : TRun other rest
  | step {rest : List Int} (h : other.length ≤ rest.length) (h1 : ∀ c ∈ rest, SI c) (k : TRun other (tstep other rest)) : TRun other rest
def tby (other rest : List Int) : Int := (if other.getLastD 0 > 0 then 1 else -1) * rest.getLastD 0
/-- a step's list before its zeros go -/
def traw (other rest : List Int) : List Int := (rest.take (rest.length - other.length)).map (fun m => ((other.getLastD 0).natAbs : Int) * m) ++ (List.zipWith (fun m i => ((other.getLastD 0).natAbs : Int) * m - tby other rest * i) (rest.drop (rest.length - other.length)) other).dropLast
theorem tstep_raw (other rest : List Int) : tstep other rest = less (trim (traw other rest)) := rfl
theorem traw_len {other rest : List Int} : (traw other rest).length ≤ rest.length := by
  unfold traw
  simp only [List.length_append, List.length_take, List.length_map, List.length_dropLast, List.length_zipWith, List.length_drop]
  omega
def rTurned (ds : List PyData) (d : PyData) : Prop := ∃ one other : List Int, ds = [il one, il other] ∧ other ≠ [] ∧ one.length ≤ 1000 ∧ other.length ≤ 1000 ∧ (∀ c ∈ other, SI c) ∧ TRun other one ∧ d = il (trest one other)
abbrev DTurned (P : Program) (w : World) (K : PySem.W.Frag) (mg : Str → Option Value) (base : Heap) := Def P w K mg base "turned_rest" ["one", "other"] 35 (spR K 2 rTurned)
theorem last_int {l : List Int} (h : l ≠ []) : (l.map PyData.int).getLast? = some (.int (l.getLastD 0)) := by
  rw [List.getLast?_map, List.getLastD_eq_getLast?]
  cases e : l.getLast? with
  | none => exact absurd (List.getLast?_eq_none_iff.mp e) h
  | some x => rfl
theorem getLastD_mem {α : Type} {l : List α} (h : l ≠ []) (d : α) : l.getLastD d ∈ l := by
  rw [List.getLastD_eq_getLast?, List.getLast?_eq_some_getLast h]
  exact List.getLast_mem h
theorem eqv_int (a b : Int) : PyData.eqv (.int a) (.int b) = decide (a = b) := by
  simp only [PyData.eqv]
  exact beq_dec a b
theorem shaped_il (l : List Int) : SeqAt.shaped (il l) = true := by
  have h1 : PyData.canLayAll0 (l.map PyData.int) = true := by
    induction l with
    | nil => simp [PyData.canLayAll0]
    | cons a l ih => simp [PyData.canLayAll0, PyData.canLay0, ih]
  have h2 : PyData.depthAll (l.map PyData.int) = 0 := by
    induction l with
    | nil => simp [PyData.depthAll]
    | cons a l ih => simp [PyData.depthAll, PyData.depth, ih (by simpa [PyData.canLayAll0, PyData.canLay0] using h1)]
  simp [SeqAt.shaped, PyData.canLay0, PyData.depth, h1, h2]
theorem eqv_il_nil (l : List Int) : PyData.eqv (il l) (.list []) = decide (l = []) := by
  cases l <;> simp [PyData.eqv, PyData.eqvAll]
theorem ok_turned {f : Addr} {fd : FuncData} (F : Fun K "turned_rest" "turned_rest" sTurnedRest f fd) (hg : mg "turned_rest" = some (.ref f)) (hb : Binds K fd ["one", "other"] []) (ba : Bas P mg base) (D1 : DLessened P w K mg base) : DTurned P w K mg base := by
  refine fn_R F scTurnedRest hg hb ba (by decide) rfl fun ds d hR _ => ?_
  obtain ⟨one, other, rfl, ho0, hl1, hl2, hs2, hrun, rfl⟩ := hR
  have B0 := ba.b0
  have hol : 0 < other.length := List.length_pos_iff.mpr ho0
  have hlead : SI (other.getLastD 0) := hs2 _ (getLastD_mem ho0 0)
  have hleadA : SI ((other.getLastD 0).natAbs : Int) := by
    obtain ⟨n, h1, h2⟩ := hlead
    exact ⟨n, h1, by simpa using h2⟩
  show R _ [.dat (il one), .dat (il other), .any, .any, .any, .any, .any, .any, .any, .any, .any] [] _ _ _
  refine r_asg (d := .tuple [il one, .int (if other.getLastD 0 > 0 then 1 else -1), .int (other.getLastD 0).natAbs]) (b_tup (ba_cons (bl_list B0 (fun _ => rfl) rfl (by walk_at "bb")).toB (ba_cons ?_ (ba_cons (b_abs B0 (fun _ => rfl) rfl (b_ixL (by walk_at "bb") (b_neg (by walk_at "bb")) (atI_last (last_int ho0)) (fun _ _ => rfl))) ba_nil (fun _ => rfl)) (fun _ => rfl)) (fun _ => rfl)) (Nat.le_of_ble_eq_true rfl)) (bg_trip (i := 2) (j := 3) (k := 4) rfl (by walk_at "loc") rfl (by walk_at "loc") rfl (by walk_at "loc")) (by walk_at "sw") (by walk_at "sw") (fun _ => rfl) ?_
  · refine b_if (bt_cmp (.gt _ _) (b_ixL (by walk_at "bb") (b_neg (by walk_at "bb")) (atI_last (last_int ho0)) (fun _ _ => rfl)) (by walk_at "bb") rfl) (fun h => ?_) fun h => ?_
    · have h : other.getLastD 0 > 0 := of_decide_eq_true h
      rw [if_pos h]
      walk_at "bb"
    · have h : ¬ other.getLastD 0 > 0 := of_decide_eq_false h
      rw [if_neg h]
      exact b_neg (by walk_at "bb")
  show R _ [.dat (il one), .dat (il other), .dat (il one), .dat (.int (if other.getLastD 0 > 0 then 1 else -1)), .dat (.int (other.getLastD 0).natAbs), .any, .any, .any, .any, .any, .any] [] _ _ _
  refine r_while (fun m ss ow => ∃ rest s5 s6 s7, m = rest.length ∧ ss = [.dat (il one), .dat (il other), .dat (il rest), .dat (.int (if other.getLastD 0 > 0 then 1 else -1)), .dat (.int (other.getLastD 0).natAbs), s5, s6, s7, .any, .any, .any] ∧ ow = [] ∧ rest.length ≤ one.length ∧ TRun other rest ∧ tloop other rest = tloop other one) one.length
    ⟨one, .any, .any, .any, rfl, rfl, rfl, Nat.le_refl _, hrun, rfl⟩ fun m ss ow hI => ?_
  obtain ⟨rest, s5, s6, s7, rfl, rfl, rfl, hrl, hrn, hpl⟩ := hI
  refine ⟨_, bt_cmp (.ge (rest.length : Int) (other.length : Int)) (B.cast (b_lenL B0 (fun _ => rfl) rfl (by walk_at "bb")) (by rw [List.length_map])) (B.cast (b_lenL B0 (fun _ => rfl) rfl (by walk_at "bb")) (by rw [List.length_map])) rfl, fun h => ?_, fun h => ?_⟩
  · have h : (other.length : Int) ≤ rest.length := of_decide_eq_true h
    have hlen : other.length ≤ rest.length := by omega
    have hr0 : rest ≠ [] := fun z => by rw [z, List.length_nil] at hlen; omega
    cases hrn with
    | done h => omega
    | step _ h1 k =>
    have hlast : SI (rest.getLastD 0) := h1 _ (getLastD_mem hr0 0)
    have hby : SI (tby other rest) := by
      unfold tby
      split
      · rw [Int.one_mul]; exact hlast
      · rw [Int.neg_mul, Int.one_mul]; exact hlast.neg
    have m0 : IntMulOk (if other.getLastD 0 > 0 then 1 else -1) (rest.getLastD 0) := SI.mul (SI.small (by split <;> decide)) hlast
    refine r_asg (d := .tuple [.int ((rest.length - other.length : Nat) : Int), .int (tby other rest)]) (b_tup (ba_cons (B.cast (b_sub (B.cast (b_lenL B0 (fun _ => rfl) rfl (by walk_at "bb")) (by rw [List.length_map])) (B.cast (b_lenL B0 (fun _ => rfl) rfl (by walk_at "bb")) (by rw [List.length_map]))) (congrArg PyData.int (by omega))) (ba_cons (b_mul (by walk_at "bb") (b_ixL (by walk_at "bb") (b_neg (by walk_at "bb")) (atI_last (last_int hr0)) (fun _ _ => rfl)) m0) ba_nil (fun _ => rfl)) (fun _ => rfl)) (Nat.le_of_ble_eq_true rfl)) (bg_pair (i := 5) (j := 6) rfl (by walk_at "loc") rfl (by walk_at "loc")) (by walk_at "sw") (by walk_at "sw") (fun _ => rfl) ?_
    show R _ [.dat (il one), .dat (il other), .dat (il rest), .dat (.int (if other.getLastD 0 > 0 then 1 else -1)), .dat (.int (other.getLastD 0).natAbs), .dat (.int ((rest.length - other.length : Nat) : Int)), .dat (.int (tby other rest)), s7, .any, .any, .any] _ _ _ _
    refine r_setLc (i := 7) (as := List.zip (rest.drop (rest.length - other.length)) other) (f := fun _ => true) (v := fun p => .int (((other.getLastD 0).natAbs : Int) * p.1 - tby other rest * p.2)) (g := fun p => PyData.tuple [.int p.1, .int p.2]) [("mine", 8), ("its", 9)] (by kernel_rfl) rfl rfl (by walk_at "sw") (BI.cast (bi_zipL B0 rfl (fun _ => rfl) (fun _ => rfl) (bl_slice (by walk_at "bb") (bo_some (by walk_at "bb")) bo_none).toB (by walk_at "bb")) ?_) (by rw [List.length_zip]; omega) (fun c hc => ?_) (fun _ _ => rfl) ?_
    · rw [cutD_drop, ← List.map_drop, List.zipWith_map, List.zip, List.map_zipWith]
    · obtain ⟨x, y⟩ := c
      obtain ⟨hx, hy⟩ := List.of_mem_zip hc
      have m1 := SI.mul hleadA (h1 _ (List.mem_of_mem_drop hx))
      have m2 := SI.mul hby (hs2 _ hy)
      refine ⟨_, [8, 9], by simp, bg_pair (i := 8) (j := 9) rfl (by walk_at "loc") rfl (by walk_at "loc"), bts_nil, fun _ => ?_⟩
      show B _ [.dat (il one), .dat (il other), .dat (il rest), .dat (.int (if other.getLastD 0 > 0 then 1 else -1)), .dat (.int (other.getLastD 0).natAbs), .dat (.int ((rest.length - other.length : Nat) : Int)), .dat (.int (tby other rest)), s7, .dat (.int x), .dat (.int y), .any] _ _ (.int (((other.getLastD 0).natAbs : Int) * x - tby other rest * y))
      walk_at "bb"
    rw [lcRes_all]
    have ee : (List.zip (rest.drop (rest.length - other.length)) other).map (fun p => PyData.int (((other.getLastD 0).natAbs : Int) * p.1 - tby other rest * p.2)) = (List.zipWith (fun m i => ((other.getLastD 0).natAbs : Int) * m - tby other rest * i) (rest.drop (rest.length - other.length)) other).map .int := by
      rw [List.zip, List.map_zipWith, List.map_zipWith]
    rw [ee]
    show R _ [.dat (il one), .dat (il other), .dat (il rest), .dat (.int (if other.getLastD 0 > 0 then 1 else -1)), .dat (.int (other.getLastD 0).natAbs), .dat (.int ((rest.length - other.length : Nat) : Int)), .dat (.int (tby other rest)), .dat (il (List.zipWith (fun m i => ((other.getLastD 0).natAbs : Int) * m - tby other rest * i) (rest.drop (rest.length - other.length)) other)), .any, .any, .any] _ _ _ _
    refine r_setL (i := 2) rfl (by walk_at "loc") (bl_lst (ba_starL (bl_lc (as := rest.take (rest.length - other.length)) (g := .int) (f := fun _ => true) (v := fun m => .int (((other.getLastD 0).natAbs : Int) * m)) [("mine", 8)] (by kernel_rfl) (BI.cast (bi_list (bl_slice (by walk_at "bb") bo_none (bo_some (by walk_at "bb"))).toB) ?_) ?_ (fun c hc => ?_) (fun _ _ => rfl)).toB (ba_starL (bl_slice (by walk_at "bb") bo_none (bo_some (b_neg (by walk_at "bb")))).toB ba_nil (fun _ => rfl)) (fun _ => rfl)) ?_) (by walk_at "sw") fun l => ?_
    · rw [cutD_take, ← List.map_take]
    · rw [List.length_take]; omega
    · have m1 := SI.mul hleadA (h1 _ (List.mem_of_mem_take hc))
      refine ⟨_, [8], by simp, bg_name (i := 8) rfl (by walk_at "loc"), bts_nil, fun _ => ?_⟩
      show B _ [.dat (il one), .dat (il other), .dat (il rest), .dat (.int (if other.getLastD 0 > 0 then 1 else -1)), .dat (.int (other.getLastD 0).natAbs), .dat (.int ((rest.length - other.length : Nat) : Int)), .dat (.int (tby other rest)), .dat (il (List.zipWith (fun m i => ((other.getLastD 0).natAbs : Int) * m - tby other rest * i) (rest.drop (rest.length - other.length)) other)), .dat (.int c), .any, .any] _ _ (.int (((other.getLastD 0).natAbs : Int) * c))
      walk_at "bb"
    · rw [cutD_front, lcRes_all]
      simp only [List.length_append, List.length_take, List.length_map, List.length_dropLast, List.length_zipWith, List.length_drop, List.length_nil]
      omega
    have e3 : lcRes (rest.take (rest.length - other.length)) (fun _ => true) (fun m => PyData.int (((other.getLastD 0).natAbs : Int) * m)) ++ (cutD ((List.zipWith (fun m i => ((other.getLastD 0).natAbs : Int) * m - tby other rest * i) (rest.drop (rest.length - other.length)) other).map .int) none (some (-1)) ++ []) = (traw other rest).map .int := by
      rw [lcRes_all, cutD_front, List.append_nil, ← List.map_dropLast]
      unfold traw
      rw [List.map_append, List.map_map]
      rfl
    rw [e3]
    show R _ [.dat (il one), .dat (il other), .adr l, .dat (.int (if other.getLastD 0 > 0 then 1 else -1)), .dat (.int (other.getLastD 0).natAbs), .dat (.int ((rest.length - other.length : Nat) : Int)), .dat (.int (tby other rest)), .dat (il (List.zipWith (fun m i => ((other.getLastD 0).natAbs : Int) * m - tby other rest * i) (rest.drop (rest.length - other.length)) other)), .any, .any, .any] [(l, (traw other rest).map .int)] _ _ _
    generalize hE : il (List.zipWith (fun m i => ((other.getLastD 0).natAbs : Int) * m - tby other rest * i) (rest.drop (rest.length - other.length)) other) = ED
    refine r_while (fun m ss ow => ∃ cur : List Int, m = cur.length ∧ ss = [.dat (il one), .dat (il other), .adr l, .dat (.int (if other.getLastD 0 > 0 then 1 else -1)), .dat (.int (other.getLastD 0).natAbs), .dat (.int ((rest.length - other.length : Nat) : Int)), .dat (.int (tby other rest)), .dat ED, .any, .any, .any] ∧ ow = [(l, cur.map .int)] ∧ trim cur = trim (traw other rest)) (traw other rest).length ⟨_, rfl, rfl, rfl, rfl⟩ fun m ss ow hI => ?_
    obtain ⟨cur, rfl, rfl, rfl, htr⟩ := hI
    refine ⟨!decide (cur = []) && decide (cur.getLastD 0 = 0), bt_w (bw_and ?_ fun h => ?_), fun h => ?_, fun h => ?_⟩
    · rw [← eqv_il_nil]
      exact bt_neO (i := 2) rfl List.mem_cons_self rfl (vis_of (by kernel_rfl)) (bl_lst ba_nil (Nat.zero_le _)).toB (shaped_il _) (shaped_il []) rfl
    · have hc0 : cur ≠ [] := by
        intro z
        rw [z] at h
        cases h
      refine bw_and1 (bt_cmp (.eqI (cur.getLastD 0) 0) (b_ixO (i := 2) (n := -1) rfl List.mem_cons_self rfl (vis_of (by kernel_rfl)) (b_neg (by walk_at "bb")) (atI_last (last_int hc0)) (fun _ _ => rfl)) (by walk_at "bb") rfl)
    · rw [Bool.and_eq_true] at h
      have hc0 : cur ≠ [] := by
        intro z
        rw [z] at h
        cases h.1
      have hz : cur.getLastD 0 = 0 := of_decide_eq_true h.2
      have hcat : cur = cur.dropLast ++ [0] := by
        have := List.dropLast_concat_getLast hc0
        rw [List.getLastD_eq_getLast?, List.getLast?_eq_some_getLast hc0] at hz
        rw [show cur.getLast hc0 = 0 from hz] at this
        exact this.symm
      refine r_popO (i := 2) rfl rfl (vis_of (by kernel_rfl)) (fun z => hc0 (List.map_eq_nil_iff.mp z)) (fun _ => rfl) rfl (by walk_at "sw") ?_
      rw [← List.map_dropLast]
      refine r_nil ⟨cur.dropLast.length, ?_, cur.dropLast, rfl, rfl, rfl, ?_⟩
      · rw [List.length_dropLast]
        have := List.length_pos_iff.mpr hc0
        omega
      · rw [← htr]
        conv => rhs; rw [hcat]
        rw [trim_drop0]
    · have hdone : trim (traw other rest) = cur := by
        rw [← htr]
        refine trim_done fun x hx hx0 => ?_
        have hc0 : cur ≠ [] := fun z => by rw [z] at hx; cases hx
        have : cur.getLastD 0 = 0 := by rw [List.getLastD_eq_getLast?, hx]; exact hx0
        rw [decide_eq_true this, decide_eq_false hc0] at h
        cases h
      have hcl : cur.length ≤ rest.length := by
        rw [← hdone]
        exact Nat.le_trans (trim_len _) traw_len
      refine r_free (i := 2) rfl ?_
      show R _ [.dat (il one), .dat (il other), .dat (il cur), .dat (.int (if other.getLastD 0 > 0 then 1 else -1)), .dat (.int (other.getLastD 0).natAbs), .dat (.int ((rest.length - other.length : Nat) : Int)), .dat (.int (tby other rest)), .dat ED, .any, .any, .any] _ _ _ _
      refine r_set (i := 2) (d := il (less cur)) rfl (by walk_at "loc") (b_callI D1 (by walk_at "hk") (by kernel_rfl) (ds := [il cur]) (by walk_at "bb") ⟨_, rfl, by omega, rfl⟩ rfl (fun _ => rfl) (fun _ => rfl) (by kernel_rfl)) (by walk_at "sw") ?_
      have hts : tstep other rest = less cur := by rw [tstep_raw, hdone]
      refine r_nil ⟨(tstep other rest).length, tstep_len ho0 hlen, tstep other rest, .dat (.int ((rest.length - other.length : Nat) : Int)), .dat (.int (tby other rest)), .dat ED, rfl, ?_, rfl, ?_, k, ?_⟩
      · rw [hts]
        rfl
      · have := tstep_len ho0 hlen
        omega
      · rw [← hpl]
        conv => rhs; rw [tloop]
        rw [dif_pos ⟨ho0, hlen⟩]
  · have h : ¬ (other.length : Int) ≤ rest.length := of_decide_eq_false h
    have e0 : tloop other one = rest := by
      rw [← hpl, tloop, dif_neg (fun z => h (by have := z.2; omega))]
    refine r_ret (d := il (trest one other)) (B.cast (bl_lc (as := rest) (g := .int) (f := fun _ => true) (v := fun m => .int (-m)) [("number", 10)] (by kernel_rfl) (bi_list (by walk_at "bb")) (by omega) (fun c hc => ?_) (fun _ _ => rfl)).toB ?_) rfl
    · refine ⟨_, [10], by simp, bg_name (i := 10) rfl (by walk_at "loc"), bts_nil, fun _ => ?_⟩
      show B _ [.dat (il one), .dat (il other), .dat (il rest), .dat (.int (if other.getLastD 0 > 0 then 1 else -1)), .dat (.int (other.getLastD 0).natAbs), s5, s6, s7, .any, .any, .dat (.int c)] _ _ (.int (-c))
      walk_at "bb"
    · rw [lcRes_all]
      unfold trest
      rw [e0]
      show PyData.list (rest.map _) = PyData.list ((rest.map _).map _)
      rw [List.map_map]
      rfl
end
end Mf
end

-- text D9
section
set_option Elab.async false
set_option linter.all false
set_option autoImplicit false
set_option maxRecDepth 100000
set_option maxHeartbeats 200000
namespace Mf
open PySem PySem.Spec PyProof.Rows L2 Evl
local macro_rules | `(tactic| walk_at "ix") => `(tactic| first | (with_reducible exact .here) | (with_reducible apply Ix.there; walk_at "ix"))
local macro_rules | `(tactic| walk_at "loc") => `(tactic| (refine loc_of ?_; kernel_rfl))
local macro_rules | `(tactic| walk_at "hk") => `(tactic| exact Nat.le_of_ble_eq_true rfl)
local macro_rules | `(tactic| walk_at "rel") => `(tactic| first | exact ⟨_, rfl, rfl⟩ | exact ⟨_, _, rfl, rfl⟩ | exact ⟨_, _, _, rfl, rfl⟩ | exact ⟨_, rfl, by assumption, rfl⟩ | exact ⟨_, _, rfl, by assumption, rfl⟩ | exact ⟨_, _, rfl, by assumption, by assumption, rfl⟩)
local macro_rules | `(tactic| walk_at "sw") => `(tactic| (intro env h; first | rfl | (cases env; cases h; rfl)))
/-- an expression, its side questions -/
local macro_rules | `(tactic| walk_at "bb") => `(tactic| first
  | ((with_reducible apply b_vi) <;> first | ((with_reducible show Ix _ _ _); walk_at "ix") | ((with_reducible show visB _ _ = true); kernel_rfl) | ((with_reducible show okN _ = true); kernel_rfl) | rfl)
  | ((with_reducible apply b_int) <;> walk_at "bb")
  | ((with_reducible apply b_bool) <;> walk_at "bb")
  | ((with_reducible apply b_non) <;> walk_at "bb")
  | ((with_reducible apply b_str) <;> walk_at "bb")
  | ((with_reducible apply b_add) <;> walk_at "bb")
  | ((with_reducible apply b_sub) <;> walk_at "bb")
  | ((with_reducible apply b_mul) <;> walk_at "bb")
  | ((with_reducible apply b_mod) <;> walk_at "bb")
  | ((with_reducible apply b_fdiv) <;> walk_at "bb")
  | ((with_reducible apply b_neg) <;> walk_at "bb")
  | ((with_reducible apply b_pow) <;> walk_at "bb")
  | ((with_reducible apply b_tup) <;> walk_at "bb")
  | ((with_reducible apply b_ixT) <;> walk_at "bb")
  | ((with_reducible apply b_ixL) <;> walk_at "bb")
  | ((with_reducible apply b_abs) <;> walk_at "bb")
  | ((with_reducible apply b_lenT) <;> walk_at "bb")
  | ((with_reducible apply b_lenL) <;> walk_at "bb")
  | ((with_reducible apply b_max2) <;> walk_at "bb")
  | ((with_reducible apply b_intI) <;> walk_at "bb")
  | ((with_reducible apply b_intB) <;> walk_at "bb")
  | ((with_reducible apply b_tupleL) <;> walk_at "bb")
  | ((with_reducible apply b_all) <;> walk_at "bb")
  | ((with_reducible apply b_sum) <;> walk_at "bb")
  | ((with_reducible apply b_if) <;> walk_at "bb")
  | ((with_reducible apply b_and) <;> walk_at "bb")
  | ((with_reducible apply b_or) <;> walk_at "bb")
  | ((with_reducible apply b_not) <;> walk_at "bb")
  | ((with_reducible apply b_one) <;> walk_at "bb")
  | ((with_reducible apply b_cmp) <;> walk_at "bb")
  | ((with_reducible apply ba_nil) <;> walk_at "bb")
  | ((with_reducible apply ba_cons) <;> walk_at "bb")
  | ((with_reducible apply b_callI) <;> walk_at "bb")
  | ((with_reducible apply bt_cmp) <;> walk_at "bb")
  | ((with_reducible apply bt_not) <;> walk_at "bb")
  | ((with_reducible show IsG _ _); kernel_rfl)
  | ((with_reducible show okN _ = true); kernel_rfl)
  | (with_reducible assumption)
  | (with_reducible exact CmpD.gt _ _)
  | (with_reducible exact CmpD.lt _ _)
  | (with_reducible exact CmpD.ge _ _)
  | (with_reducible exact CmpD.le _ _)
  | (with_reducible exact CmpD.eqI _ _)
  | (with_reducible exact CmpD.neI _ _)
  | ((with_reducible show _ = _); rfl)
  | ((with_reducible show (_ : Nat) ≤ _); first | walk_at "hk" | decide)
  | (intro _; rfl)
  | (intro _ _; rfl)
  | walk_at "rel")
section
variable {P : Program} {w : World} {K : PySem.W.Frag} {mg : Str → Option Value} {base : Heap}
/-! ### sign_row -/
inductive RRun : List Int → List Int → Prop where
  | done {a : List Int} : RRun a []
  | step {a b : List Int} (h0 : b ≠ []) (h1 : a.length ≤ 1000) (h2 : b.length ≤ 1000) (h3 : ∀ c ∈ b, SI c) (h4 : TRun b a) (k : RRun b (trest a b)) : RRun a b
def SRowOk (l : List Rat) : Prop := WOk l ∧ WOk (slope l) ∧ RRun (less (whole l)) (less (whole (slope l)))
def rSignRow (ds : List PyData) (d : PyData) : Prop := ∃ l : List Rat, ds = [pq l] ∧ SRowOk l ∧ d = .list ((srow l).map il)
abbrev DSignRow (P : Program) (w : World) (K : PySem.W.Frag) (mg : Str → Option Value) (base : Heap) := Def P w K mg base "sign_row" ["poly"] 37 (spR K 1 rSignRow)
theorem whole_len (l : List Rat) : (whole l).length = l.length := by unfold whole; rw [List.length_map]
theorem atI_last2 {α : Type} (pre : List α) (a b : α) : atI (pre ++ [a] ++ [b]) (-2) = some a := by
  unfold atI
  have e : ixN (pre ++ [a] ++ [b]).length (-2) = some pre.length := by
    unfold ixN
    simp only [List.length_append, List.length_cons, List.length_nil]
    rw [if_neg (by omega), if_pos (by omega)]
    congr 1
    omega
  rw [e]
  simp
theorem ok_sign_row {f : Addr} {fd : FuncData} (F : Fun K "sign_row" "sign_row" sSignRow f fd) (hg : mg "sign_row" = some (.ref f)) (hb : Binds K fd ["poly"] []) (ba : Bas P mg base) (D1 : DLessened P w K mg base) (D2 : DWholeOf P w K mg base) (D3 : DSlopeIn P w K mg base) (D4 : DTurned P w K mg base) : DSignRow P w K mg base := by
  refine fn_R F scSignRow hg hb ba (by decide) rfl fun ds d hR _ => ?_
  obtain ⟨l, rfl, ⟨hw1, hw2, hrun⟩, rfl⟩ := hR
  have B0 := ba.b0
  show R _ [.dat (pq l), .any, .any] [] _ _ _
  refine r_parL1 (i := 1) (j := 2) (ds := [il (less (whole l))]) (d2 := il (less (whole (slope l)))) rfl rfl (by decide) rfl rfl (bl_lst (ba_cons ?_ ba_nil (fun _ => rfl)) (Nat.le_of_ble_eq_true rfl)) ?_ (by walk_at "sw") (by walk_at "sw") (fun _ => rfl) (fun _ => rfl) fun a => ?_
  · exact b_callI D1 (by walk_at "hk") (by kernel_rfl) (ds := [il (whole l)]) (ba_cons (b_ixT (ds := [il (whole l), .int (lcmDen l)]) (n := 0) (b_callI D2 (by walk_at "hk") (by kernel_rfl) (ds := [pq l]) (by walk_at "bb") ⟨_, rfl, hw1, rfl⟩ rfl (fun _ => rfl) (fun _ => rfl) (by kernel_rfl)) (by walk_at "bb") rfl (fun _ _ => rfl)) ba_nil (fun _ => rfl)) ⟨_, rfl, by rw [whole_len]; exact hw1.1, rfl⟩ rfl (fun _ => rfl) (fun _ => rfl) (by kernel_rfl)
  · exact b_callI D1 (by walk_at "hk") (by kernel_rfl) (ds := [il (whole (slope l))]) (ba_cons (b_ixT (ds := [il (whole (slope l)), .int (lcmDen (slope l))]) (n := 0) (b_callI D2 (by walk_at "hk") (by kernel_rfl) (ds := [pq (slope l)]) (ba_cons (b_callI D3 (by walk_at "hk") (by kernel_rfl) (ds := [pq l]) (by walk_at "bb") ⟨_, rfl, hw1.1, hw1.2.1, rfl⟩ rfl (fun _ => rfl) (fun _ => rfl) (by kernel_rfl)) ba_nil (fun _ => rfl)) ⟨_, rfl, hw2, rfl⟩ rfl (fun _ => rfl) (fun _ => rfl) (by kernel_rfl)) (by walk_at "bb") rfl (fun _ _ => rfl)) ba_nil (fun _ => rfl)) ⟨_, rfl, by rw [whole_len]; exact hw2.1, rfl⟩ rfl (fun _ => rfl) (fun _ => rfl) (by kernel_rfl)
  show R _ [.dat (pq l), .adr a, .dat (il (less (whole (slope l))))] _ _ _ _
  refine r_while (fun m ss ow => ∃ (pre : List (List Int)) (x y : List Int), m = y.length ∧ ss = [.dat (pq l), .adr a, .dat (il y)] ∧ ow = [(a, (pre ++ [x]).map il)] ∧ RRun x y ∧ srow l = pre ++ [x] ++ rowLoop x y ∧ pre.length + y.length ≤ 1000) (less (whole (slope l))).length
    ⟨[], _, _, rfl, rfl, rfl, hrun, rfl, by rw [less_len, whole_len]; have := hw2.1; simpa using this⟩ fun m ss ow hI => ?_
  obtain ⟨pre, x, y, rfl, rfl, rfl, hr, hs, hl⟩ := hI
  refine ⟨!decide (y = []), ?_, fun h => ?_, fun h => ?_⟩
  · rw [← eqv_il_nil]
    exact bt_cmp (.neD _ _ (shaped_il y) (shaped_il [])) (by walk_at "bb") (bl_lst ba_nil (Nat.zero_le _)).toB rfl
  · have hy : y ≠ [] := by
      intro z
      rw [decide_eq_true z] at h
      cases h
    cases hr with
    | done => exact absurd rfl hy
    | step _ h1 h2 h3 h4 k =>
    have hyl := List.length_pos_iff.mpr hy
    refine r_appO (i := 1) (d := il y) rfl rfl (vis_of (by kernel_rfl)) (by walk_at "bb") (by rw [List.length_map, List.length_append, List.length_singleton]; omega) (fun _ => rfl) rfl (fun _ => rfl) (by walk_at "sw") ?_
    rw [show (pre ++ [x]).map il ++ [il y] = (pre ++ [x] ++ [y]).map il by simp]
    refine r_set (i := 2) (d := il (trest x y)) rfl (by walk_at "loc") (b_callI D4 (by walk_at "hk") (by kernel_rfl) (ds := [il x, il y]) (ba_cons (b_ixO (i := 1) (n := -2) rfl List.mem_cons_self rfl (vis_of (by kernel_rfl)) (b_neg (by walk_at "bb")) ?_ (fun _ _ => rfl)) (ba_cons (b_ixO (i := 1) (n := -1) rfl List.mem_cons_self rfl (vis_of (by kernel_rfl)) (b_neg (by walk_at "bb")) ?_ (fun _ _ => rfl)) ba_nil (fun _ => rfl)) (fun _ => rfl)) ⟨_, _, rfl, hy, h1, h2, h3, h4, rfl⟩ rfl (fun _ => rfl) (fun _ => rfl) (by kernel_rfl)) (by walk_at "sw") ?_
    · rw [List.map_append, List.map_append]
      exact atI_last2 _ _ _
    · refine atI_last ?_
      rw [List.map_append]
      simp
    have ht : (trest x y).length < y.length := trest_len hy
    refine r_nil ⟨(trest x y).length, ht, pre ++ [x], y, trest x y, rfl, rfl, rfl, k, ?_, ?_⟩
    · rw [hs]
      conv => lhs; rw [rowLoop]
      rw [dif_neg hy]
      simp
    · rw [List.length_append, List.length_singleton]
      omega
  · have hy : y = [] := by
      have h : (!decide (y = [])) = false := h
      by_cases z : y = []
      · exact z
      · rw [decide_eq_false z] at h
        cases h
    refine r_free (i := 1) rfl (r_ret (d := .list ((pre ++ [x]).map il)) (by walk_at "bb") ?_)
    rw [hs, hy, rowLoop, dif_pos rfl, List.append_nil]
/-! ### counting_row -/
def PartOk (one other : List Rat) : Prop := other ≠ [] ∧ other.getLastD 0 ≠ 0 ∧ one.length ≤ 200 ∧ other.length ≤ 200 ∧ (∀ c ∈ other, SF c) ∧ PRun other one
def lastR (row : List (List Int)) : List Rat := (row.getLastD []).map fun (n : Int) => (n : Rat)
def CRowOk (l : List Rat) : Prop := SRowOk l ∧ ((srow l).getLastD []).length ≤ 1000 ∧ (((srow l).getLastD []).length ≠ 1 → PartOk l (lastR (srow l)) ∧ SRowOk (parted l (lastR (srow l))).1)
def rCountingRow (ds : List PyData) (d : PyData) : Prop := ∃ l : List Rat, ds = [pq l] ∧ CRowOk l ∧ d = .list ((crow l).map il)
abbrev DCountingRow (P : Program) (w : World) (K : PySem.W.Frag) (mg : Str → Option Value) (base : Heap) := Def P w K mg base "counting_row" ["poly"] 38 (spR K 1 rCountingRow)
theorem srow_ne (l : List Rat) : srow l ≠ [] := by unfold srow; exact fun z => nomatch z
theorem last_il {l : List (List Int)} (h : l ≠ []) : (l.map il).getLast? = some (il (l.getLastD [])) := by
  rw [List.getLast?_map, List.getLastD_eq_getLast?]
  cases e : l.getLast? with
  | none => exact absurd (List.getLast?_eq_none_iff.mp e) h
  | some x => rfl
theorem fr_int (n : Int) : fr ((n : Int) : Rat) = .tuple [.int n, .int 1] := by
  show PyData.tuple [.int ((n : Int) : Rat).num, .int ((n : Int) : Rat).den] = _
  rw [Rat.num_intCast, Rat.den_intCast]
  rfl
theorem ok_counting_row {f : Addr} {fd : FuncData} (F : Fun K "counting_row" "counting_row" sCountingRow f fd) (hg : mg "counting_row" = some (.ref f)) (hb : Binds K fd ["poly"] []) (ba : Bas P mg base) (D1 : DSignRow P w K mg base) (D2 : DPartedIn P w K mg base) : DCountingRow P w K mg base := by
  refine fn_R F scCountingRow hg hb ba (by decide) rfl fun ds d hR _ => ?_
  obtain ⟨l, rfl, ⟨hs, hlen, hp⟩, rfl⟩ := hR
  have B0 := ba.b0
  show R _ [.dat (pq l), .any, .any] [] _ _ _
  refine r_set (i := 1) (d := .list ((srow l).map il)) rfl (by walk_at "loc") (b_callI D1 (by walk_at "hk") (by kernel_rfl) (ds := [pq l]) (by walk_at "bb") ⟨_, rfl, hs, rfl⟩ rfl (fun _ => rfl) (fun _ => rfl) (by kernel_rfl)) (by walk_at "sw") ?_
  show R _ [.dat (pq l), .dat (.list ((srow l).map il)), .any] [] _ _ _
  refine r_if (t := decide (((((srow l).getLastD []).length : Nat) : Int) = 1)) (bt_cmp (.eqI _ _) (B.cast (b_lenL B0 (fun _ => rfl) rfl (b_ixL (by walk_at "bb") (b_neg (by walk_at "bb")) (atI_last (last_il (srow_ne l))) (fun _ _ => rfl))) (by rw [List.length_map])) (by walk_at "bb") rfl) (fun h => ?_) fun h => ?_
  · have h : ((((srow l).getLastD []).length : Nat) : Int) = 1 := of_decide_eq_true h
    refine r_ret (d := .list ((srow l).map il)) (by walk_at "bb") ?_
    unfold crow
    rw [if_pos (by omega)]
  · have h : ¬ ((((srow l).getLastD []).length : Nat) : Int) = 1 := of_decide_eq_false h
    obtain ⟨⟨p1, p2, p3, p4, p5, p6⟩, hs2⟩ := hp (by omega)
    refine r_nil (r_ret (d := .list ((srow (parted l (lastR (srow l))).1).map il)) (b_callI D1 (by walk_at "hk") (by kernel_rfl) (ds := [pq (parted l (lastR (srow l))).1]) (ba_cons (b_ixT (ds := [pq (parted l (lastR (srow l))).1, pq (parted l (lastR (srow l))).2]) (n := 0) (b_callI D2 (by walk_at "hk") (by kernel_rfl) (ds := [pq l, pq (lastR (srow l))]) (ba_cons (by walk_at "bb") (ba_cons (b_tupleL B0 (fun _ => rfl) rfl (B.cast (bl_lc (as := (srow l).getLastD []) (g := .int) (f := fun _ => true) (v := fun n => fr ((n : Int) : Rat)) [("number", 2)] (by kernel_rfl) (bi_list (b_ixL (by walk_at "bb") (b_neg (by walk_at "bb")) (atI_last (last_il (srow_ne l))) (fun _ _ => rfl))) (by omega) (fun c hc => ?_) (fun _ _ => rfl)).toB ?_)) ba_nil (fun _ => rfl)) (fun _ => rfl)) ⟨_, _, rfl, p1, p2, p3, p4, p5, p6, rfl⟩ rfl (fun _ => rfl) (fun _ => rfl) (by kernel_rfl)) (by walk_at "bb") rfl (fun _ _ => rfl)) ba_nil (fun _ => rfl)) ⟨_, rfl, hs2, rfl⟩ rfl (fun _ => rfl) (fun _ => rfl) (by kernel_rfl)) ?_)
    · refine ⟨_, [2], by simp, bg_name (i := 2) rfl (by walk_at "loc"), bts_nil, fun _ => ?_⟩
      show B _ [.dat (pq l), .dat (.list ((srow l).map il)), .dat (.int c)] _ _ (fr ((c : Int) : Rat))
      rw [fr_int]
      walk_at "bb"
    · rw [lcRes_all]
      unfold lastR
      rw [List.map_map]
      rfl
    · unfold crow lastR
      rw [if_neg (by omega)]
end
end Mf
end

-- text D10
section
set_option Elab.async false
set_option linter.all false
set_option autoImplicit false
set_option maxRecDepth 100000
set_option maxHeartbeats 200000
namespace Mf
open PySem PySem.Spec PyProof.Rows L2 Evl
local macro_rules | `(tactic| walk_at "ix") => `(tactic| first | (with_reducible exact .here) | (with_reducible apply Ix.there; walk_at "ix"))
local macro_rules | `(tactic| walk_at "loc") => `(tactic| (refine loc_of ?_; kernel_rfl))
local macro_rules | `(tactic| walk_at "hk") => `(tactic| exact Nat.le_of_ble_eq_true rfl)
local macro_rules | `(tactic| walk_at "rel") => `(tactic| first | exact ⟨_, rfl, rfl⟩ | exact ⟨_, _, rfl, rfl⟩ | exact ⟨_, _, _, rfl, rfl⟩ | exact ⟨_, rfl, by assumption, rfl⟩ | exact ⟨_, _, rfl, by assumption, rfl⟩ | exact ⟨_, _, rfl, by assumption, by assumption, rfl⟩)
local macro_rules | `(tactic| walk_at "sw") => `(tactic| (intro env h; first | rfl | (cases env; cases h; rfl)))
/-- an expression, its side questions -/
local macro_rules | `(tactic| walk_at "bb") => `(tactic| first
  | ((with_reducible apply b_vi) <;> first | ((with_reducible show Ix _ _ _); walk_at "ix") | ((with_reducible show visB _ _ = true); kernel_rfl) | ((with_reducible show okN _ = true); kernel_rfl) | rfl)
  | ((with_reducible apply b_int) <;> walk_at "bb")
  | ((with_reducible apply b_bool) <;> walk_at "bb")
  | ((with_reducible apply b_non) <;> walk_at "bb")
  | ((with_reducible apply b_str) <;> walk_at "bb")
  | ((with_reducible apply b_add) <;> walk_at "bb")
  | ((with_reducible apply b_sub) <;> walk_at "bb")
  | ((with_reducible apply b_mul) <;> walk_at "bb")
  | ((with_reducible apply b_mod) <;> walk_at "bb")
  | ((with_reducible apply b_fdiv) <;> walk_at "bb")
  | ((with_reducible apply b_neg) <;> walk_at "bb")
  | ((with_reducible apply b_pow) <;> walk_at "bb")
  | ((with_reducible apply b_tup) <;> walk_at "bb")
  | ((with_reducible apply b_ixT) <;> walk_at "bb")
  | ((with_reducible apply b_ixL) <;> walk_at "bb")
  | ((with_reducible apply b_abs) <;> walk_at "bb")
  | ((with_reducible apply b_lenT) <;> walk_at "bb")
  | ((with_reducible apply b_lenL) <;> walk_at "bb")
  | ((with_reducible apply b_max2) <;> walk_at "bb")
  | ((with_reducible apply b_intI) <;> walk_at "bb")
  | ((with_reducible apply b_intB) <;> walk_at "bb")
  | ((with_reducible apply b_tupleL) <;> walk_at "bb")
  | ((with_reducible apply b_all) <;> walk_at "bb")
  | ((with_reducible apply b_sum) <;> walk_at "bb")
  | ((with_reducible apply b_if) <;> walk_at "bb")
  | ((with_reducible apply b_and) <;> walk_at "bb")
  | ((with_reducible apply b_or) <;> walk_at "bb")
  | ((with_reducible apply b_not) <;> walk_at "bb")
  | ((with_reducible apply b_one) <;> walk_at "bb")
  | ((with_reducible apply b_cmp) <;> walk_at "bb")
  | ((with_reducible apply ba_nil) <;> walk_at "bb")
  | ((with_reducible apply ba_cons) <;> walk_at "bb")
  | ((with_reducible apply b_callI) <;> walk_at "bb")
  | ((with_reducible apply bt_cmp) <;> walk_at "bb")
  | ((with_reducible apply bt_not) <;> walk_at "bb")
  | ((with_reducible show IsG _ _); kernel_rfl)
  | ((with_reducible show okN _ = true); kernel_rfl)
  | (with_reducible assumption)
  | (with_reducible exact CmpD.gt _ _)
  | (with_reducible exact CmpD.lt _ _)
  | (with_reducible exact CmpD.ge _ _)
  | (with_reducible exact CmpD.le _ _)
  | (with_reducible exact CmpD.eqI _ _)
  | (with_reducible exact CmpD.neI _ _)
  | ((with_reducible show _ = _); rfl)
  | ((with_reducible show (_ : Nat) ≤ _); first | walk_at "hk" | decide)
  | (intro _; rfl)
  | (intro _ _; rfl)
  | walk_at "rel")
section
variable {P : Program} {w : World} {K : PySem.W.Frag} {mg : Str → Option Value} {base : Heap}
/-! ### sign_at -/
def hst (q : Rat) (l : List Int) (k : Nat) : Int × Int := (l.reverse.take k).foldl (fun fb n => (fb.1 * q.num + n * fb.2, fb.2 * q.den)) (0, 1)
def HOk (l : List Int) (q : Rat) : Prop := l.length ≤ 1000 ∧ SF q ∧ (∀ c ∈ l, SI c) ∧ ∀ k, SI (hst q l k).1 ∧ SI (hst q l k).2
def rSignAt (ds : List PyData) (d : PyData) : Prop := ∃ (l : List Int) (q : Rat), ds = [il l, fr q] ∧ HOk l q ∧ d = .int (signOf l q)
abbrev DSignAt (P : Program) (w : World) (K : PySem.W.Frag) (mg : Str → Option Value) (base : Heap) := Def P w K mg base "sign_at" ["numbers", "at"] 33 (spR K 2 rSignAt)
theorem hst_step {q : Rat} {l : List Int} {i : Nat} {c : Int} (h : l.reverse[i]? = some c) : hst q l (i + 1) = ((hst q l i).1 * q.num + c * (hst q l i).2, (hst q l i).2 * q.den) := by
  unfold hst
  rw [List.take_add_one, h, List.foldl_append]
  rfl
theorem hst_all (q : Rat) (l : List Int) : hst q l l.length = hornr q l := by
  unfold hst hornr
  rw [← List.length_reverse, List.take_length]
theorem ok_sign_at {f : Addr} {fd : FuncData} (F : Fun K "sign_at" "sign_at" sSignAt f fd) (hg : mg "sign_at" = some (.ref f)) (hb : Binds K fd ["numbers", "at"] []) (ba : Bas P mg base) : DSignAt P w K mg base := by
  refine fn_R F scSignAt hg hb ba (by decide) rfl fun ds d hR _ => ?_
  obtain ⟨l, q, rfl, ⟨hl, hq, hs, hh⟩, rfl⟩ := hR
  have B0 := ba.b0
  show R _ [.dat (il l), .dat (fr q), .any, .any, .any] [] _ _ _
  refine r_asg (d := .tuple [.int 0, .int 1]) (by walk_at "bb") (bg_pair (i := 2) (j := 3) rfl (by walk_at "loc") rfl (by walk_at "loc")) (by walk_at "sw") (by walk_at "sw") (fun _ => rfl) ?_
  refine r_for (as := l.reverse) (g := .int) (BI.cast (bi_list (bl_rev (by walk_at "bb")).toB) (by rw [← List.map_reverse])) (fun i ss ow => ow = [] ∧ ∃ s4, ss = [.dat (il l), .dat (fr q), .dat (.int (hst q l i).1), .dat (.int (hst q l i).2), s4]) ⟨rfl, _, rfl⟩ (fun i ss ow h => by rw [h.1]) (fun i c ss ow hc hI => ?_) (fun ss ow hI => ?_) (fun _ _ => rfl)
  · obtain ⟨rfl, s4, rfl⟩ := hI
    have hcs : SI c := hs c (List.mem_reverse.mp (List.mem_of_getElem? hc))
    have m1 := SI.mul (hh i).1 hq.1
    have m2 := SI.mul hcs (hh i).2
    have m3 := SI.mul (hh i).2 hq.2
    refine ⟨_, _, bg_name (i := 4) rfl (by walk_at "loc"), ?_⟩
    show R _ [.dat (il l), .dat (fr q), .dat (.int (hst q l i).1), .dat (.int (hst q l i).2), .dat (.int c)] _ _ _ _
    refine r_par (i := 2) (j := 3) (d1 := .int ((hst q l i).1 * q.num + c * (hst q l i).2)) (d2 := .int ((hst q l i).2 * q.den)) rfl rfl (by decide) rfl rfl (by walk_at "bb") (by walk_at "sw") (by walk_at "sw") (r_nil ⟨rfl, .dat (.int c), ?_⟩)
    rw [hst_step hc]
    rfl
  · obtain ⟨rfl, s4, rfl⟩ := hI
    rw [List.length_reverse, hst_all]
    refine r_ret (b_sub (b_intB B0 (fun _ => rfl) rfl (b_cmp (.gt (hornr q l).1 0) (by walk_at "bb") (by walk_at "bb") rfl)) (b_intB B0 (fun _ => rfl) rfl (b_cmp (.lt (hornr q l).1 0) (by walk_at "bb") (by walk_at "bb") rfl))) ?_
    unfold signOf
    congr 2
    · simp
    · simp
/-! ### changes_at -/
def rChangesAt (ds : List PyData) (d : PyData) : Prop := ∃ (row : List (List Int)) (q : Rat), ds = [.list (row.map il), fr q] ∧ row.length ≤ 1000 ∧ (∀ l ∈ row, HOk l q) ∧ d = .int (changes row q)
abbrev DChangesAt (P : Program) (w : World) (K : PySem.W.Frag) (mg : Str → Option Value) (base : Heap) := Def P w K mg base "changes_at" ["row", "at"] 34 (spR K 2 rChangesAt)
theorem ok_changes_at {f : Addr} {fd : FuncData} (F : Fun K "changes_at" "changes_at" sChangesAt f fd) (hg : mg "changes_at" = some (.ref f)) (hb : Binds K fd ["row", "at"] []) (ba : Bas P mg base) (D1 : DSignAt P w K mg base) : DChangesAt P w K mg base := by
  refine fn_R F scChangesAt hg hb ba (by decide) rfl fun ds d hR _ => ?_
  obtain ⟨row, q, rfl, hl, hs, rfl⟩ := hR
  have B0 := ba.b0
  show R _ [.dat (.list (row.map il)), .dat (fr q), .any, .any, .any, .any, .any] [] _ _ _
  refine r_setLc (i := 2) (as := row.map fun l => signOf l q) (f := fun s => !decide (s = 0)) (v := .int) (g := .int) [("sign", 3)] (by kernel_rfl) rfl rfl (by walk_at "sw") (BI.cast (bi_list (bl_lc (as := row) (g := il) (f := fun _ => true) (v := fun l => .int (signOf l q)) [("numbers", 4)] (by kernel_rfl) (bi_list (by walk_at "bb")) (by omega) (fun c hc => ?_) (fun _ _ => rfl)).toB) ?_) (by rw [List.length_map]; omega) (fun c hc => ?_) (fun _ _ => rfl) ?_
  · refine ⟨_, [4], by simp, bg_name (i := 4) rfl (by walk_at "loc"), bts_nil, fun _ => ?_⟩
    show B _ [.dat (.list (row.map il)), .dat (fr q), .any, .any, .dat (il c), .any, .any] _ _ (.int (signOf c q))
    exact b_callI D1 (by walk_at "hk") (by kernel_rfl) (ds := [il c, fr q]) (by walk_at "bb") ⟨_, _, rfl, hs c hc, rfl⟩ rfl (fun _ => rfl) (fun _ => rfl) (by kernel_rfl)
  · rw [lcRes_all, List.map_map]
    rfl
  · refine ⟨_, [3], by simp, bg_name (i := 3) rfl (by walk_at "loc"), bts_one (bt_cmp (.neI c 0) ?_ ?_ rfl), fun _ => ?_⟩
    · show B _ [.dat (.list (row.map il)), .dat (fr q), .any, .dat (.int c), .any, .any, .any] _ _ _
      walk_at "bb"
    · walk_at "bb"
    · show B _ [.dat (.list (row.map il)), .dat (fr q), .any, .dat (.int c), .any, .any, .any] _ _ _
      walk_at "bb"
  have e1 : lcRes (row.map fun l => signOf l q) (fun s => !decide (s = 0)) PyData.int = (signsAt row q).map .int := by
    unfold lcRes signsAt
    refine congrArg _ (List.filter_congr fun x _ => ?_)
    simp
  rw [e1]
  have hsl : (signsAt row q).length ≤ row.length := by
    unfold signsAt
    refine Nat.le_trans (List.length_filter_le _ _) ?_
    rw [List.length_map]
    exact Nat.le_refl _
  show R _ [.dat (.list (row.map il)), .dat (fr q), .dat (il (signsAt row q)), .any, .any, .any, .any] _ _ _ _
  refine r_ret (d := .int (changes row q)) (b_sum (ns := (List.zipWith (fun a b => (a, b)) (signsAt row q) ((signsAt row q).drop 1)).map fun ab => if ab.1 ≠ ab.2 then (1 : Int) else 0) B0 (fun _ => rfl) rfl (B.cast (bl_lc (as := List.zipWith (fun a b => (a, b)) (signsAt row q) ((signsAt row q).drop 1)) (g := fun p => .tuple [.int p.1, .int p.2]) (f := fun _ => true) (v := fun p => .int (if (!decide (p.1 = p.2)) = true then 1 else 0)) [("one", 5), ("other", 6)] (by kernel_rfl) (BI.cast (bi_zipL B0 rfl (fun _ => rfl) (fun _ => rfl) (by walk_at "bb") (bl_slice (by walk_at "bb") (bo_some (n := 1) (by walk_at "bb")) bo_none).toB) ?_) ?_ (fun c hc => ?_) (fun _ _ => rfl)).toB ?_)) rfl
  · rw [show (1 : Int) = ((1 : Nat) : Int) from rfl, cutD_drop, ← List.map_drop, List.zipWith_map, List.map_zipWith]
  · rw [List.length_zipWith]; omega
  · refine ⟨_, [5, 6], by simp, bg_pair (i := 5) (j := 6) rfl (by walk_at "loc") rfl (by walk_at "loc"), bts_nil, fun _ => ?_⟩
    show B _ [.dat (.list (row.map il)), .dat (fr q), .dat (il (signsAt row q)), .any, .any, .dat (.int c.1), .dat (.int c.2)] _ _ (.int (if (!decide (c.1 = c.2)) = true then 1 else 0))
    exact b_intB B0 (fun _ => rfl) rfl (by walk_at "bb")
  · rw [lcRes_all, List.map_map]
    refine congrArg PyData.list (List.map_congr_left fun x _ => ?_)
    simp
/-! ### zeros_between -/
def ZOk (l : List Rat) (lo hi : Rat) : Prop := CRowOk l ∧ (crow l).length ≤ 1000 ∧ (∀ r ∈ crow l, HOk r lo) ∧ ∀ r ∈ crow l, HOk r hi
def rZerosBetween (ds : List PyData) (d : PyData) : Prop := ∃ (l : List Rat) (lo hi : Rat), ds = [pq l, fr lo, fr hi] ∧ ZOk l lo hi ∧ d = .int (zbetween l lo hi)
abbrev DZerosBetween (P : Program) (w : World) (K : PySem.W.Frag) (mg : Str → Option Value) (base : Heap) := Def P w K mg base "zeros_between" ["poly", "low", "high"] 39 (spR K 3 rZerosBetween)
theorem ok_zeros_between {f : Addr} {fd : FuncData} (F : Fun K "zeros_between" "zeros_between" sZerosBetween f fd) (hg : mg "zeros_between" = some (.ref f)) (hb : Binds K fd ["poly", "low", "high"] []) (ba : Bas P mg base) (D1 : DCountingRow P w K mg base) (D2 : DChangesAt P w K mg base) : DZerosBetween P w K mg base := by
  refine fn_R F scZerosBetween hg hb ba (by decide) rfl fun ds d hR _ => ?_
  obtain ⟨l, lo, hi, rfl, ⟨hc, hl, h1, h2⟩, rfl⟩ := hR
  have B0 := ba.b0
  show R _ [.dat (pq l), .dat (fr lo), .dat (fr hi), .any] [] _ _ _
  refine r_set (i := 3) (d := .list ((crow l).map il)) rfl (by walk_at "loc") (b_callI D1 (by walk_at "hk") (by kernel_rfl) (ds := [pq l]) (by walk_at "bb") ⟨_, rfl, hc, rfl⟩ rfl (fun _ => rfl) (fun _ => rfl) (by kernel_rfl)) (by walk_at "sw") ?_
  show R _ [.dat (pq l), .dat (fr lo), .dat (fr hi), .dat (.list ((crow l).map il))] [] _ _ _
  exact r_ret (d := .int (zbetween l lo hi)) (b_sub (b_callI D2 (by walk_at "hk") (by kernel_rfl) (ds := [.list ((crow l).map il), fr lo]) (by walk_at "bb") ⟨_, _, rfl, hl, h1, rfl⟩ rfl (fun _ => rfl) (fun _ => rfl) (by kernel_rfl)) (b_callI D2 (by walk_at "hk") (by kernel_rfl) (ds := [.list ((crow l).map il), fr hi]) (by walk_at "bb") ⟨_, _, rfl, hl, h2, rfl⟩ rfl (fun _ => rfl) (fun _ => rfl) (by kernel_rfl))) rfl
/-! ### what zeros_in asks -/
def rNeedStretch (ds : List PyData) (d : PyData) : Prop := ∃ (vp vl vh : PyData) (l : List Rat) (lo hi : Rat), ds = [vp, vl, vh] ∧ RepP vp l ∧ RepF vl lo ∧ RepF vh hi ∧ d = .tuple [pq (trim l), fr lo, fr hi]
abbrev DNeedStretch (P : Program) (w : World) (K : PySem.W.Frag) (mg : Str → Option Value) (base : Heap) := Def P w K mg base "need_stretch" ["poly", "low", "high"] 37 (spR K 3 rNeedStretch)
theorem ok_need_stretch {f : Addr} {fd : FuncData} (F : Fun K "need_stretch" "need_stretch" sNeedStretch f fd) (hg : mg "need_stretch" = some (.ref f)) (hb : Binds K fd ["poly", "low", "high"] []) (ba : Bas P mg base) (D1 : DNeedPoly P w K mg base) (D2 : DNeedFraction P w K mg base) : DNeedStretch P w K mg base := by
  refine fn_R F scNeedStretch hg hb ba (by decide) rfl fun ds d hR _ => ?_
  obtain ⟨vp, vl, vh, l, lo, hi, rfl, hp, h1, h2, rfl⟩ := hR
  have B0 := ba.b0
  show R _ [.dat vp, .dat vl, .dat vh, .any, .any] [] _ _ _
  refine r_set (i := 3) (d := pq (trim l)) rfl (by walk_at "loc") (b_callI D1 (by walk_at "hk") (by kernel_rfl) (ds := [vp, .str "poly"]) (by walk_at "bb") ⟨_, _, _, rfl, hp, rfl⟩ rfl (fun _ => rfl) (fun _ => rfl) (by kernel_rfl)) (by walk_at "sw") ?_
  refine r_set (i := 4) (d := fr lo) rfl (by walk_at "loc") (b_callI D2 (by walk_at "hk") (by kernel_rfl) (ds := [vl, .str "low"]) (by walk_at "bb") ⟨_, _, _, rfl, h1, rfl⟩ rfl (fun _ => rfl) (fun _ => rfl) (by kernel_rfl)) (by walk_at "sw") ?_
  show R _ [.dat vp, .dat vl, .dat vh, .dat (pq (trim l)), .dat (fr lo)] [] _ _ _
  exact r_ret (d := .tuple [pq (trim l), fr lo, fr hi]) (b_tup (ba_cons (by walk_at "bb") (ba_cons (by walk_at "bb") (ba_cons (b_callI D2 (by walk_at "hk") (by kernel_rfl) (ds := [vh, .str "high"]) (by walk_at "bb") ⟨_, _, _, rfl, h2, rfl⟩ rfl (fun _ => rfl) (fun _ => rfl) (by kernel_rfl)) ba_nil (fun _ => rfl)) (fun _ => rfl)) (fun _ => rfl)) (Nat.le_of_ble_eq_true rfl)) rfl
def rNeedBelow (ds : List PyData) (d : PyData) : Prop := ∃ q r : Rat, ds = [fr q, fr r] ∧ SF q ∧ SF r ∧ q < r ∧ d = .none
abbrev DNeedBelow (P : Program) (w : World) (K : PySem.W.Frag) (mg : Str → Option Value) (base : Heap) := Def P w K mg base "need_below" ["low", "high"] 34 (spR K 2 rNeedBelow)
theorem ok_need_below {f : Addr} {fd : FuncData} (F : Fun K "need_below" "need_below" sNeedBelow f fd) (hg : mg "need_below" = some (.ref f)) (hb : Binds K fd ["low", "high"] []) (ba : Bas P mg base) (D1 : DIsLess P w K mg base) : DNeedBelow P w K mg base := by
  refine fn_R F scNeedBelow hg hb ba (by decide) rfl fun ds d hR _ => ?_
  obtain ⟨q, r, rfl, h1, h2, h3, rfl⟩ := hR
  have B0 := ba.b0
  show R _ [.dat (fr q), .dat (fr r)] [] _ _ _
  refine r_if (t := false) (bt_not (t := true) (bt_val (b_callI D1 (by walk_at "hk") (by kernel_rfl) (ds := [fr q, fr r]) (by walk_at "bb") ⟨_, _, rfl, h1, h2, by rw [decide_eq_true h3]⟩ rfl (fun _ => rfl) (fun _ => rfl) (by kernel_rfl)) fun _ _ => rfl)) (fun h => by cases h) fun _ => r_nil (r_nil rfl)
def rNeedSome (ds : List PyData) (d : PyData) : Prop := ∃ l : List Rat, ds = [pq l] ∧ l ≠ [] ∧ (∀ q ∈ l, True) ∧ d = .none
abbrev DNeedSome (P : Program) (w : World) (K : PySem.W.Frag) (mg : Str → Option Value) (base : Heap) := Def P w K mg base "need_some" ["poly"] 33 (spR K 1 rNeedSome)
theorem eqv_pq_nil (l : List Rat) : PyData.eqv (pq l) (.tuple []) = decide (l = []) := by
  cases l <;> simp [PyData.eqv, PyData.eqvAll]
theorem shaped_pq (l : List Rat) : SeqAt.shaped (pq l) = true := by
  have h1 : PyData.canLayAll0 (l.map fr) = true := by
    induction l with
    | nil => simp [PyData.canLayAll0]
    | cons a l ih => simp [PyData.canLayAll0, PyData.canLay0, ih]
  have h2 : PyData.depthAll (l.map fr) ≤ 1 := by
    induction l with
    | nil => simp [PyData.depthAll]
    | cons a l ih =>
      have := ih (by simpa [PyData.canLayAll0, PyData.canLay0] using h1)
      simp [PyData.depthAll, PyData.depth]
      omega
  simp [SeqAt.shaped, PyData.canLay0, PyData.depth, h1]
  omega
theorem ok_need_some {f : Addr} {fd : FuncData} (F : Fun K "need_some" "need_some" sNeedSome f fd) (hg : mg "need_some" = some (.ref f)) (hb : Binds K fd ["poly"] []) (ba : Bas P mg base) : DNeedSome P w K mg base := by
  refine fn_R F scNeedSome hg hb ba (by decide) rfl fun ds d hR _ => ?_
  obtain ⟨l, rfl, h0, _, rfl⟩ := hR
  have B0 := ba.b0
  show R _ [.dat (pq l)] [] _ _ _
  refine r_if (t := decide (l = [])) ?_ (fun h => absurd (of_decide_eq_true h) h0) fun _ => r_nil (r_nil rfl)
  rw [← eqv_pq_nil]
  exact bt_cmp (.eqD _ _ (shaped_pq l) (shaped_pq [])) (by walk_at "bb") (b_tup ba_nil (Nat.zero_le _)) rfl
/-! ### zeros_in -/
def ZIn (vp vl vh : PyData) (l : List Rat) (lo hi : Rat) : Prop := RepP vp l ∧ RepF vl lo ∧ RepF vh hi ∧ trim l ≠ [] ∧ SF lo ∧ SF hi ∧ lo < hi ∧ ZOk (trim l) lo hi
def rZerosIn (ds : List PyData) (d : PyData) : Prop := ∃ (vp vl vh : PyData) (l : List Rat) (lo hi : Rat), ds = [vp, vl, vh] ∧ ZIn vp vl vh l lo hi ∧ d = .int (zbetween (trim l) lo hi)
abbrev DZerosIn (P : Program) (w : World) (K : PySem.W.Frag) (mg : Str → Option Value) (base : Heap) := Def P w K mg base "zeros_in" ["poly", "low", "high"] 40 (spR K 3 rZerosIn)
theorem fk_zeros_in {f : Addr} {fd : FuncData} (F : Fun K "zeros_in" "zeros_in" sZerosIn f fd) (ba : Bas P mg base) (D1 : DNeedStretch P w K mg base) (D2 : DNeedSome P w K mg base) (D3 : DNeedBelow P w K mg base) (D4 : DZerosBetween P w K mg base) : FnOk P w K mg base CX0 40 f fd ["poly", "low", "high"] (spR K 3 rZerosIn) := by
  refine fn_RA F scZerosIn ba (by decide) rfl fun ds d hR _ => ?_
  obtain ⟨vp, vl, vh, l, lo, hi, rfl, ⟨h1, h2, h3, h4, h5, h6, h7, h8⟩, rfl⟩ := hR
  have B0 := ba.b0
  show R _ [.dat vp, .dat vl, .dat vh, .any, .any, .any] [] _ _ _
  refine r_asg (d := .tuple [pq (trim l), fr lo, fr hi]) (b_callI D1 (by walk_at "hk") (by kernel_rfl) (ds := [vp, vl, vh]) (by walk_at "bb") ⟨_, _, _, _, _, _, rfl, h1, h2, h3, rfl⟩ rfl (fun _ => rfl) (fun _ => rfl) (by kernel_rfl)) (bg_trip (i := 3) (j := 4) (k := 5) rfl (by walk_at "loc") rfl (by walk_at "loc") rfl (by walk_at "loc")) (by walk_at "sw") (by walk_at "sw") (fun _ => rfl) ?_
  show R _ [.dat vp, .dat vl, .dat vh, .dat (pq (trim l)), .dat (fr lo), .dat (fr hi)] [] _ _ _
  refine r_drop (d := .none) (b_callI D2 (by walk_at "hk") (by kernel_rfl) (ds := [pq (trim l)]) (by walk_at "bb") ⟨_, rfl, h4, fun _ _ => trivial, rfl⟩ rfl (fun _ => rfl) (fun _ => rfl) (by kernel_rfl)) (by walk_at "sw") ?_
  refine r_drop (d := .none) (b_callI D3 (by walk_at "hk") (by kernel_rfl) (ds := [fr lo, fr hi]) (by walk_at "bb") ⟨_, _, rfl, h5, h6, h7, rfl⟩ rfl (fun _ => rfl) (fun _ => rfl) (by kernel_rfl)) (by walk_at "sw") ?_
  exact r_ret (d := .int (zbetween (trim l) lo hi)) (b_callI D4 (by walk_at "hk") (by kernel_rfl) (ds := [pq (trim l), fr lo, fr hi]) (by walk_at "bb") ⟨_, _, _, rfl, h8, rfl⟩ rfl (fun _ => rfl) (fun _ => rfl) (by kernel_rfl)) rfl
end
end Mf
end

-- text W7
section
set_option Elab.async false
set_option linter.all false
set_option autoImplicit false
set_option maxRecDepth 100000
set_option maxHeartbeats 200000
/-! W7: expressions that change the head of the owned lists (the counter), in the style of continuations. -/
namespace Mf
open PySem PySem.Spec PyProof.Rows L2 Evl
section
variable {S : Stc} {ss : List SS} {ow : Ow} {c l : Addr} {cs cs' : List PyData} {e a b : Expr} {es : List Expr} {d d1 d2 : PyData} {ds ds1 ds2 : List PyData} {pos p p' : Pos} {x y : Str} {i j : Nat} {n m : Int} {t : Bool} {rest sts : List Stmt} {nx : List SS → Ow → Prop} {rt : PyData → Ow → Prop}
/-- an expression: the head's content may change; then C holds of the new content and the value -/
structure BE (S : Stc) (ss : List SS) (c : Addr) (ow : Ow) (cs : List PyData) (e : Expr) (C : List PyData → PyData → Prop) : Prop where
  run : ∀ (M0 : Addr → Prop) (σ : L2.St) (H : Hp), Hds S.K M0 ss ((c, cs) :: ow) σ H → ∀ Q : VK,
    (∀ cs' d v H2, C cs' d → Hds S.K M0 ss ((c, cs') :: ow) σ H2 → Rel ((c, cs) :: ow) H ((c, cs') :: ow) H2 → Dp S.K (cut (Mk M0 ((c, cs') :: ow)) H2) v d → Q v H2) → tE S e σ H Q
structure BAE (S : Stc) (ss : List SS) (c : Addr) (ow : Ow) (cs : List PyData) (es : List Expr) (C : List PyData → List PyData → Prop) : Prop where
  run : ∀ (M0 : Addr → Prop) (σ : L2.St) (H : Hp), Hds S.K M0 ss ((c, cs) :: ow) σ H → ∀ Q : List V → Hp → Prop,
    (∀ cs' ds vs H2, C cs' ds → Hds S.K M0 ss ((c, cs') :: ow) σ H2 → Rel ((c, cs) :: ow) H ((c, cs') :: ow) H2 → DpAll S.K (cut (Mk M0 ((c, cs') :: ow)) H2) vs ds → Q vs H2) → tA S es σ H Q
structure BTE (S : Stc) (ss : List SS) (c : Addr) (ow : Ow) (cs : List PyData) (e : Expr) (C : List PyData → Bool → Prop) : Prop where
  run : ∀ (M0 : Addr → Prop) (σ : L2.St) (H : Hp), Hds S.K M0 ss ((c, cs) :: ow) σ H → ∀ Q : Bool → Hp → Prop,
    (∀ cs' t H2, C cs' t → Hds S.K M0 ss ((c, cs') :: ow) σ H2 → Rel ((c, cs) :: ow) H ((c, cs') :: ow) H2 → Q t H2) → tT S e σ H Q
theorem rel_ex {M0 : Addr → Prop} {H H2 : Hp} (r : Rel ((c, cs) :: ow) H ((c, cs') :: ow) H2) : Ex (cut (Mk M0 ((c, cs) :: ow)) H) (cut (Mk M0 ((c, cs') :: ow)) H2) := fun a o h => by
  obtain ⟨n, h⟩ := cut_some.mp h
  have n2 : ¬ Mk M0 ((c, cs') :: ow) a := by rw [← mk_head (ds := cs)]; exact n
  exact cut_of n2 (r.1 a o h fun z => n (.inr z))
theorem be_pure {C : List PyData → PyData → Prop} (h : B S ss ((c, cs) :: ow) e d) (k : C cs d) : BE S ss c ow cs e C := .mk fun M0 σ H g Q q => h.run M0 σ H g _ fun v H2 e2 h2 => q cs d v H2 k (g.ex e2) (Rel.of_ex e2) h2
theorem be_mono {C C' : List PyData → PyData → Prop} (h : BE S ss c ow cs e C) (k : ∀ cs' d, C cs' d → C' cs' d) : BE S ss c ow cs e C' := .mk fun M0 σ H g Q q => h.run M0 σ H g Q fun cs' d v H2 z => q cs' d v H2 (k cs' d z)
theorem bae_nil {C : List PyData → List PyData → Prop} (k : C cs []) : BAE S ss c ow cs [] C := .mk fun M0 σ H g Q q => ⟨tNil, fun X F => pa_nil, q cs [] [] H k g (Rel.refl _ _) .nil⟩
theorem bae_pure {C : List PyData → List PyData → Prop} (h : BA S ss ((c, cs) :: ow) es ds) (k : C cs ds) : BAE S ss c ow cs es C := .mk fun M0 σ H g Q q => h.run M0 σ H g _ fun v H2 e2 h2 => q cs ds v H2 k (g.ex e2) (Rel.of_ex e2) h2
theorem bae_cons {C : List PyData → List PyData → Prop} (ha : BE S ss c ow cs e fun cs1 d => BAE S ss c ow cs1 es fun cs2 ds => C cs2 (d :: ds)) (hs : ∀ env : Env, starEach (e :: es) env = (false, eval e env) :: starEach es env) : BAE S ss c ow cs (e :: es) C := .mk fun M0 σ H g Q q =>
  ⟨tCons (tE S e) (tA S es), fun X F => pa_cons (pe_tE F) (pa_tA F) (hs _), ha.run M0 σ H g _ fun cs1 d v H1 h1 g1 r1 hv => h1.run M0 σ H1 g1 _ fun cs2 ds vs H2 h2 g2 r2 hvs => q cs2 (d :: ds) (v :: vs) H2 h2 g2 (r1.trans r2) (.cons (hv.mono (rel_ex r2)) hvs)⟩
/-! operators of ints -/
theorem be_add {C : List PyData → PyData → Prop} (ha : BE S ss c ow cs a fun cs1 d => ∃ n, d = .int n ∧ BE S ss c ow cs1 b fun cs2 d => ∃ m, d = .int m ∧ C cs2 (.int (n + m))) : BE S ss c ow cs (.BinOp a .Add b pos) C := .mk fun M0 σ H g Q q =>
  ⟨tOp _ (tE S a) (tE S b), fun X F => pe_op op_add (pe_tE F) (pe_tE F), ha.run M0 σ H g _ fun cs1 d v H1 h1 g1 r1 hv => by
    obtain ⟨n, rfl, h1⟩ := h1
    cases hv
    refine h1.run M0 σ H1 g1 _ fun cs2 d u H2 h2 g2 r2 hu => ?_
    obtain ⟨m, rfl, h2⟩ := h2
    cases hu
    exact ⟨n, m, rfl, rfl, q cs2 _ _ H2 h2 g2 (r1.trans r2) (.int _)⟩⟩
theorem be_sub {C : List PyData → PyData → Prop} (ha : BE S ss c ow cs a fun cs1 d => ∃ n, d = .int n ∧ BE S ss c ow cs1 b fun cs2 d => ∃ m, d = .int m ∧ C cs2 (.int (n - m))) : BE S ss c ow cs (.BinOp a .Sub b pos) C := .mk fun M0 σ H g Q q =>
  ⟨tOp _ (tE S a) (tE S b), fun X F => pe_op op_sub (pe_tE F) (pe_tE F), ha.run M0 σ H g _ fun cs1 d v H1 h1 g1 r1 hv => by
    obtain ⟨n, rfl, h1⟩ := h1
    cases hv
    refine h1.run M0 σ H1 g1 _ fun cs2 d u H2 h2 g2 r2 hu => ?_
    obtain ⟨m, rfl, h2⟩ := h2
    cases hu
    exact ⟨n, m, rfl, rfl, q cs2 _ _ H2 h2 g2 (r1.trans r2) (.int _)⟩⟩
/-! displays -/
theorem be_tup {x1} {C : List PyData → PyData → Prop} (ha : BAE S ss c ow cs es fun cs' ds => ds.length ≤ 100000 ∧ C cs' (.tuple ds)) : BE S ss c ow cs (.Tuple es x1 pos) C := .mk fun M0 σ H g Q q =>
  ⟨tTup (tA S es), fun X F => pe_tup (pa_tA F), ha.run M0 σ H g _ fun cs' ds vs H1 h1 g1 r1 hv => ⟨by rw [hv.length]; exact sz_of h1.1, fun p hp => by
    have hm := g1.mk_dom
    exact q cs' _ _ _ h1.2 (g1.ex (Ex.new hp)) (r1.trans (Rel.of_ex (Ex.new hp))) (.tup (.inl (.inl (cut_new hm hp))) (hv.mono (cut_ex (Ex.new hp))))⟩⟩
theorem be_lst {C : List PyData → PyData → Prop} (ha : BAE S ss c ow cs es fun cs' ds => ds.length ≤ 100000 ∧ C cs' (.list ds)) : BE S ss c ow cs (.List es pos) C := .mk fun M0 σ H g Q q =>
  ⟨tLst (tA S es), fun X F => pe_lst (pa_tA F), ha.run M0 σ H g _ fun cs' ds vs H1 h1 g1 r1 hv => ⟨by rw [hv.length]; exact sz_of h1.1, fun p hp => by
    have hm := g1.mk_dom
    exact q cs' _ _ _ h1.2 (g1.ex (Ex.new hp)) (r1.trans (Rel.of_ex (Ex.new hp))) (.lst (.inl (.inl (cut_new hm hp))) (hv.mono (cut_ex (Ex.new hp))))⟩⟩
/-- [e] * n -/
theorem be_rep {C : List PyData → PyData → Prop} {pl : Pos} (ha : BAE S ss c ow cs es fun cs1 ds => ds.length ≤ 100 ∧ ∃ n : Int, B S ss ((c, cs1) :: ow) b (.int n) ∧ -1000 ≤ n ∧ n ≤ 1000 ∧ C cs1 (.list (List.replicate n.toNat ds).flatten)) : BE S ss c ow cs (.BinOp (.List es pl) .Mult b pos) C := .mk fun M0 σ H g Q q =>
  ⟨tOp rRep (tLst (tA S es)) (tE S b), fun X F => pe_op op_rep (pe_lst (pa_tA F)) (pe_tE F), ha.run M0 σ H g _ fun cs1 ds vs H1 h1 g1 r1 hv => by
    obtain ⟨hl, n, hb, hn1, hn2, hC⟩ := h1
    refine ⟨by rw [hv.length]; exact sz_of (by omega), fun p hp => ?_⟩
    refine hb.run M0 σ _ (g1.ex (Ex.new hp)) _ fun y H2 e2 hy => ?_
    cases hy
    have hlen : vs.length = ds.length := hv.length
    have e1 := Ex.new (o := .lst vs) hp
    refine ⟨p, n, vs, rfl, rfl, e2 _ _ upd_same, by omega, by omega, ?_, fun l hl' => ?_⟩
    · have : vs.length * n.toNat ≤ 100 * 1000 := Nat.mul_le_mul (by omega) (by omega)
      exact Nat.le_trans this (by decide)
    · have e3 := (e1.trans e2).trans (Ex.new (o := .lst (List.replicate n.toNat vs).flatten) hl')
      refine q cs1 _ _ _ hC (g1.ex e3) (r1.trans (Rel.of_ex e3)) (.lst (.inl (.inl (cut_new (g1.ex (e1.trans e2)).mk_dom hl'))) ((hv.mono (cut_ex e3)).rep n.toNat))⟩
/-- a pure list + one with effects -/
theorem be_cat {C : List PyData → PyData → Prop} (ha : B S ss ((c, cs) :: ow) a (.list ds1)) (hb : BE S ss c ow cs b fun cs2 d => ∃ ds2, d = .list ds2 ∧ ds1.length + ds2.length ≤ 100000 ∧ C cs2 (.list (ds1 ++ ds2))) : BE S ss c ow cs (.BinOp a .Add b pos) C := .mk fun M0 σ H g Q q =>
  ⟨tOp (rCatS S.K) (tE S a) (tE S b), fun X F => by have := pe_op (X := X) (pos := pos) op_catS (pe_tE (e := a) F) (pe_tE (e := b) F); rwa [F.K] at this, ha.run M0 σ H g _ fun v H1 e1 h1 => hb.run M0 σ H1 (g.ex e1) _ fun cs2 d y H2 h2 g2 r2 hy => by
    obtain ⟨ds2, rfl, hl, hC⟩ := h2
    cases h1 with
    | @lst pa xs ds' hL hd =>
      cases hy with
      | @lst pb ys ds'' hL2 hd2 =>
        have l1 := hd.length
        have l2 := hd2.length
        have ee := rel_ex (M0 := M0) r2
        refine ⟨pa, pb, xs, ys, rfl, rfl, ex_l (cut_le (M := Mk M0 ((c, cs2) :: ow))) (ex_l ee hL), ex_l cut_le hL2, sz_of (by omega), fun p hp => ?_⟩
        exact q cs2 _ _ _ hC (g2.ex (Ex.new hp)) (((Rel.of_ex e1).trans r2).trans (Rel.of_ex (Ex.new hp))) (.lst (.inl (.inl (cut_new g2.mk_dom hp))) (((hd.mono ee).append hd2).mono (cut_ex (Ex.new hp))))⟩
/-- an item of a list, the place with effects -/
theorem be_ixL {C : List PyData → PyData → Prop} (ha : B S ss ((c, cs) :: ow) a (.list ds)) (hb : BE S ss c ow cs b fun cs2 d => ∃ n d', d = .int n ∧ atI ds n = some d' ∧ C cs2 d') (hs : PlainIx b) : BE S ss c ow cs (.Subscript a b pos) C := .mk fun M0 σ H g Q q =>
  ⟨tOp (rIxL S.K) (tE S a) (tE S b), fun X F => by have := pe_ix (X := X) (pos := pos) ix_list (pe_tE (e := a) F) (pe_tE (e := b) F) hs; rwa [F.K] at this, ha.run M0 σ H g _ fun v H1 e1 h1 => hb.run M0 σ H1 (g.ex e1) _ fun cs2 d y H2 h2 g2 r2 hy => by
    obtain ⟨n, d', rfl, hi, hC⟩ := h2
    cases h1 with
    | @lst pa xs ds' hL hd =>
      cases hy
      have ee := rel_ex (M0 := M0) r2
      have hd2 := hd.mono ee
      have hlen := hd.length
      have hi' : ∃ j, ixN ds.length n = some j ∧ ds[j]? = some d' := by
        unfold atI at hi
        exact Option.bind_eq_some_iff.mp hi
      obtain ⟨j, hj, hj2⟩ := hi'
      obtain ⟨v, hv, hvd⟩ := hd2.get hj2
      refine ⟨pa, xs, n, v, rfl, rfl, ex_l (cut_le (M := Mk M0 ((c, cs2) :: ow))) (ex_l ee hL), ?_, q cs2 d' v H2 hC g2 ((Rel.of_ex e1).trans r2) hvd⟩
      unfold atI
      rw [hlen, hj]
      exact hv⟩
theorem be_if {c0 : Expr} {C : List PyData → PyData → Prop} (h : BT S ss ((c, cs) :: ow) c0 t) (h1 : t = true → BE S ss c ow cs a C) (h2 : t = false → BE S ss c ow cs b C) : BE S ss c ow cs (.IfExp c0 a b pos) C := .mk fun M0 σ H g Q q =>
  ⟨tIf (tT S c0) (tE S a) (tE S b), fun X F => pe_ifExp (pt_tT F) (pe_tE F) (pe_tE F), h.run M0 σ H g _ fun H1 e1 => by
    cases t with
    | true =>
      show tE S a σ H1 Q
      exact (h1 rfl).run M0 σ H1 (g.ex e1) Q fun cs' d v H2 z g2 r2 hv => q cs' d v H2 z g2 ((Rel.of_ex e1).trans r2) hv
    | false =>
      show tE S b σ H1 Q
      exact (h2 rfl).run M0 σ H1 (g.ex e1) Q fun cs' d v H2 z g2 r2 hv => q cs' d v H2 z g2 ((Rel.of_ex e1).trans r2) hv⟩
/-! calls -/
/-- a def of the text that changes nothing, its arguments with effects -/
theorem be_callR {ps : List Str} {k nn : Nat} {Rl : List PyData → PyData → Prop} {C : List PyData → PyData → Prop} (D : Def S.P S.w S.K S.mg S.base x ps k (spR S.K nn Rl)) (hk : k ≤ S.k) (hg : IsG S x) (ha : BAE S ss c ow cs (e :: es) fun cs' ds => ds.length = nn ∧ ∃ d, Rl ds d ∧ C cs' d)
    (he : ∀ env : Env, starEach (e :: es) env = (false, eval e env) :: starEach es env) (hpl : ∀ env : Env, (backTo pos (starEach es env)).any (·.1) = false) (hdb : okN x = true) : BE S ss c ow cs (.Call (.Name x p) (e :: es) [] pos) C := .mk fun M0 σ H g Q q => by
  obtain ⟨f, fd, h1, h2, h3, h4⟩ := D
  refine ⟨tCall (spR S.K nn Rl) [] E0 (tA S (e :: es)), fun X F => ?_, ha.run M0 σ H g _ fun cs' ds vs H1 hz g1 r1 hv => ?_⟩
  · have h1' : FnOk X.prog X.w X.K X.mg X.base CX0 k f fd ps (spR S.K nn Rl) := by rw [F.prog, F.w, F.K, F.mg, F.base]; exact h1
    exact pe_call h1' (F.room.mono hk) (gl_of F hg) (by rw [F.mg]; exact h2) (by rw [F.K]; exact h3) (by rw [F.K]; exact h4) .nil pass0 (pa_tA F) (okN_1 hdb) (he _) (hpl _)
  · obtain ⟨hn, d, hr, hC⟩ := hz
    show spR S.K nn Rl (vs ++ []) H1 Q E0
    rw [List.append_nil]
    exact ⟨by rw [hv.length]; exact hn, Mk M0 ((c, cs') :: ow), ds, d, g1.mk_dom, hv, hr, fun v H2 e2 h => q cs' d v H2 hC (g1.ex e2) (r1.trans (Rel.of_ex e2)) h⟩
/-- a def's promise that changes the list it is given first -/
def spE (K : PySem.W.Frag) (n : Nat) (Pre : List PyData → List PyData → Prop) (Post : List PyData → List PyData → List PyData → PyData → Prop) : Sp := fun vs H Q _ => vs.length = n ∧ ∃ (c : Addr) (us ws : List V) (M : Addr → Prop) (cs ds : List PyData),
  vs = .ref c :: us ∧ H c = some (.lst ws) ∧ ¬ M c ∧ (∀ a, M a → H a ≠ none) ∧ DpAll K (cut (Mk M [(c, cs)]) H) ws cs ∧ DpAll K (cut (Mk M [(c, cs)]) H) us ds ∧ Pre cs ds ∧
  ∀ cs' d v H2 ws', Post cs ds cs' d → (∀ a o, H a = some o → a ≠ c → H2 a = some o) → H2 c = some (.lst ws') → DpAll K (cut (Mk M [(c, cs)]) H2) ws' cs' → Dp K (cut (Mk M [(c, cs)]) H2) v d → Q v H2
theorem mk_split {M0 : Addr → Prop} : Mk M0 ((c, cs) :: ow) = Mk (Mk M0 ow) [(c, cs')] := by
  funext z
  unfold Mk
  simp only [List.map_cons, List.map_nil, List.mem_cons, List.not_mem_nil, or_false]
  exact propext ⟨fun h => by rcases h with h | h | h <;> simp [h], fun h => by rcases h with (h | h) | h <;> simp [h]⟩
theorem be_call {ps : List Str} {k nn : Nat} {Pre : List PyData → List PyData → Prop} {Post : List PyData → List PyData → List PyData → PyData → Prop} {C : List PyData → PyData → Prop} {px : Pos} (D : Def S.P S.w S.K S.mg S.base x ps k (spE S.K nn Pre Post)) (hk : k ≤ S.k) (hg : IsG S x)
    (hc : ss[i]? = some (.adr c)) (hi : S.N[i]? = some y) (hv : Vis S.sc y) (ha : BA S ss ((c, cs) :: ow) es ds) (hn : ds.length + 1 = nn) (hpre : Pre cs ds) (hC : ∀ cs' d, Post cs ds cs' d → C cs' d)
    (he : ∀ env : Env, starEach (.Name y px :: es) env = (false, eval (.Name y px) env) :: starEach es env) (hpl : ∀ env : Env, (backTo pos (starEach es env)).any (·.1) = false) (hdb : okN x = true) (hdy : okN y = true) : BE S ss c ow cs (.Call (.Name x p) (.Name y px :: es) [] pos) C := .mk fun M0 σ H g Q q => by
  obtain ⟨f, fd, h1, h2, h3, h4⟩ := D
  refine ⟨tCall (spE S.K nn Pre Post) [] E0 (tCons (tVar i) (tA S es)), fun X F => ?_, .ref c, g.adr hc, ha.run M0 σ H g _ fun vs H1 e1 hvs => ?_⟩
  · have h1' : FnOk X.prog X.w X.K X.mg X.base CX0 k f fd ps (spE S.K nn Pre Post) := by rw [F.prog, F.w, F.K, F.mg, F.base]; exact h1
    exact pe_call h1' (F.room.mono hk) (gl_of F hg) (by rw [F.mg]; exact h2) (by rw [F.K]; exact h3) (by rw [F.K]; exact h4) .nil pass0 (pa_cons (pe_slot F hi hv (okN_1 hdy) (okN_2 hdy)) (pa_tA F) (he _)) (okN_1 hdb) (he _) (hpl _)
  · show spE S.K nn Pre Post ((.ref c :: vs) ++ []) H1 Q E0
    rw [List.append_nil]
    have g1 := g.ex e1
    obtain ⟨ws, q1, q2⟩ := g1.own _ List.mem_cons_self
    have hms : ∀ cs2 : List PyData, Mk M0 ((c, cs2) :: ow) = Mk (Mk M0 ow) [(c, cs)] := fun cs2 => mk_split
    have hmc : ¬ Mk M0 ow c := fun z => by
      rcases z with z | z
      · exact g1.dj _ List.mem_cons_self z
      · have := g1.nd
        rw [List.map_cons, List.nodup_cons] at this
        exact this.1 z
    refine ⟨by rw [List.length_cons, hvs.length]; exact hn, c, vs, ws, Mk M0 ow, cs, ds, rfl, q1, hmc, fun a h => g1.mk_dom a ?_, by rw [← hms cs]; exact q2, by rw [← hms cs]; exact hvs, hpre, fun cs' d v H2 ws' hp hk2 hc2 hw2 hd2 => ?_⟩
    · rcases h with h | h
      · exact .inl h
      · exact .inr (by rw [List.map_cons]; exact List.mem_cons_of_mem _ h)
    have r2 : Rel ((c, cs) :: ow) H1 ((c, cs') :: ow) H2 := ⟨fun a o h n => hk2 a o h fun z => n (by rw [z, List.map_cons]; exact List.mem_cons_self), fun p hp => .inl (by
      have e : ((c, cs') :: ow).map (fun z => z.1) = ((c, cs) :: ow).map (fun z => z.1) := rfl
      rw [← e]
      exact List.mem_map_of_mem hp)⟩
    rw [← hms cs'] at hw2 hd2
    have ee := rel_ex (M0 := M0) r2
    have g2 : Hds S.K M0 ss ((c, cs') :: ow) σ H2 := by
      refine ⟨fun a h => ?_, fun p hp => ?_, ?_, fun p hp => ?_, g1.len, fun j s hs => ?_⟩
      · cases hz : H1 a with
        | none => exact absurd hz (g1.m0 a h)
        | some o => rw [hk2 a o hz fun z => g1.dj _ List.mem_cons_self (by rw [← z]; exact h)]; exact fun z => nomatch z
      · rcases List.mem_cons.mp hp with rfl | hp
        · exact g1.dj (c, cs) List.mem_cons_self
        · exact g1.dj p (List.mem_cons_of_mem _ hp)
      · have := g1.nd
        rw [List.map_cons] at this ⊢
        exact this
      · rcases List.mem_cons.mp hp with rfl | hp
        · exact ⟨ws', hc2, hw2⟩
        · obtain ⟨us, u1, u2⟩ := g1.own p (List.mem_cons_of_mem _ hp)
          have hpl : p.1 ≠ c := fun z => by
            have := g1.nd
            rw [List.map_cons, List.nodup_cons] at this
            have h2 : c ∉ ow.map (·.1) := this.1
            have h3 : p.1 ∈ ow.map (·.1) := List.mem_map_of_mem hp
            rw [z] at h3
            exact h2 h3
          exact ⟨us, hk2 _ _ u1 hpl, u2.mono ee⟩
      · obtain ⟨o, u1, u2⟩ := g1.sl j s hs
        exact ⟨o, u1, u2.mono ee⟩
    exact q cs' d v H2 (hC cs' d hp) g2 ((Rel.of_ex e1).trans r2) hd2
/-! tests -/
theorem bte_pure {C : List PyData → Bool → Prop} (h : BT S ss ((c, cs) :: ow) e t) (k : C cs t) : BTE S ss c ow cs e C := .mk fun M0 σ H g Q q => h.run M0 σ H g _ fun H2 e2 => q cs t H2 k (g.ex e2) (Rel.of_ex e2)
/-! statements -/
theorem r_setE (hi : S.N[i]? = some x) (hx : LocS S x) (he : BE S ss c ow cs e fun cs' d => R S (ss.set i (.dat d)) ((c, cs') :: ow) rest nx rt) (hs : ∀ env : Env, env.scope = S.sc → swapsWith e (some (.Name x p')) pos.line env = pure false) : R S ss ((c, cs) :: ow) (.Assign [.Name x p'] e pos :: rest) nx rt :=
  fun M0 σ H g D hn hr => tSs_cons ⟨tAsg (tE S e) (gName i), fun X F => ps_set (by rw [F.N]; exact F.nd) (by rw [F.N]; exact hi) (by rw [F.sc]; exact hx.1) (pe_tE F) (hs _ F.sc) (by
      rcases hx.2 with h | h
      · exact .inl (by rw [F.fn h])
      · exact .inr (by rw [F.sc]; exact h)), he.run M0 σ H g _ fun cs' d v H1 k g1 r1 hv => k.at_ (g1.setD hv) r1 hn hr⟩
theorem r_asgE {tg : Expr} (he : BE S ss c ow cs e fun cs' d => ∃ ss' js, BG S tg d ss ss' js ∧ R S ss' ((c, cs') :: ow) rest nx rt) (hs : ∀ env : Env, env.scope = S.sc → swapsWithSole [tg] e pos.line env = pure false) (hw : ∀ env : Env, env.scope = S.sc → swappedStores [tg] e env = pure none) (h1 : ∀ env : Env, (assignEach [tg] env).map (·.2) = [assign tg env]) :
    R S ss ((c, cs) :: ow) (.Assign [tg] e pos :: rest) nx rt :=
  fun M0 σ H g D hn hr => tSs_cons ⟨tAsg (tE S e) (tG S tg), fun X F => ps_asg (pe_tE F) (pg_tG F) (hs _ F.sc) (hw _ F.sc) (h1 _), he.run M0 σ H g _ fun cs' d v H1 k g1 r1 hv => by
    obtain ⟨ss', js, hg, k⟩ := k
    exact hg.run M0 _ σ H1 v g1 hv _ fun σ' g' _ => k.at_ g' r1 hn hr⟩
theorem r_parE {px py pt pt2 : Pos} {kt k2 : Nat} (hi : S.N[i]? = some x) (hj : S.N[j]? = some y) (hij : i ≠ j) (hx : S.sc.names.lookup x = some .local) (hy : S.sc.names.lookup y = some .local)
    (ha : BAE S ss c ow cs [a, b] fun cs' ds => ∃ d1 d2, ds = [d1, d2] ∧ R S ((ss.set i (.dat d1)).set j (.dat d2)) ((c, cs') :: ow) rest nx rt)
    (hw : ∀ env : Env, env.scope = S.sc → swappedStores [.Tuple [.Name x px, .Name y py] kt pt] (.Tuple [a, b] k2 pt2) env = pure (some [x, y])) (hs : ∀ env : Env, env.scope = S.sc → swapsWithSole [.Tuple [.Name x px, .Name y py] kt pt] (.Tuple [a, b] k2 pt2) pos.line env = pure false) :
    R S ss ((c, cs) :: ow) (.Assign [.Tuple [.Name x px, .Name y py] kt pt] (.Tuple [a, b] k2 pt2) pos :: rest) nx rt :=
  fun M0 σ H g D hn hr => tSs_cons ⟨tPar i j (tA S [a, b]), fun X F => ps_parS F hi hj hij hx hy (pa_tA F) hw hs, ha.run M0 σ H g _ fun cs' ds vs H1 h1 g1 r1 hv => by
    obtain ⟨d1, d2, rfl, k⟩ := h1
    obtain ⟨v, w, rfl, hv, hw⟩ := two_of hv
    exact ⟨v, w, rfl, k.at_ ((g1.setD hv).setD hw) r1 hn hr⟩⟩
theorem r_retE (he : BE S ss c ow cs e fun cs' d => rt d ((c, cs') :: ow)) : R S ss ((c, cs) :: ow) (.Return (some e) pos :: rest) nx rt := fun M0 σ H g D hn hr =>
  tSs_cons ⟨tRet (tE S e), fun X F => ps_ret (pe_tE F), he.run M0 σ H g _ fun cs' d v H1 h g1 r1 hv => hr d _ ss σ v H1 h g1 r1 hv⟩
theorem r_ifE {c0 : Expr} {body els : List Stmt} (hc : BTE S ss c ow cs c0 fun cs' t => (t = true → R S ss ((c, cs') :: ow) body (fun ss' ow' => R S ss' ow' rest nx rt) rt) ∧ (t = false → R S ss ((c, cs') :: ow) els (fun ss' ow' => R S ss' ow' rest nx rt) rt)) : R S ss ((c, cs) :: ow) (.If c0 body els pos :: rest) nx rt := fun M0 σ H g D hn hr =>
  tSs_cons ⟨tIfS (tT S c0) (tSs S body) (tSs S els), fun X F => ps_if (pt_tT F) (pss_tSs F) (pss_tSs F), hc.run M0 σ H g _ fun cs' t H1 h1 g1 r1 => by
    cases t with
    | true =>
      show tSs S body _ σ H1
      exact (h1.1 rfl).at_ g1 r1 (fun ss' ow' σ' H' n g' r' => n.at_ g' r' hn hr) hr
    | false =>
      show tSs S els _ σ H1
      exact (h1.2 rfl).at_ g1 r1 (fun ss' ow' σ' H' n g' r' => n.at_ g' r' hn hr) hr⟩
end
end Mf
end

-- text W8
section
set_option Elab.async false
set_option linter.all false
set_option autoImplicit false
set_option maxRecDepth 100000
set_option maxHeartbeats 200000
/-! W8: effects in walks and comprehensions; defs that change their first list. -/
namespace Mf
open PySem PySem.Spec PyProof.Rows L2 Evl
section
variable {S : Stc} {ss : List SS} {ow : Ow} {c l : Addr} {cs cs' : List PyData} {e a b : Expr} {es : List Expr} {d d1 d2 : PyData} {ds ds1 ds2 : List PyData} {pos p p' : Pos} {x y : Str} {i j : Nat} {n m : Int} {t : Bool} {rest sts : List Stmt} {nx : List SS → Ow → Prop} {rt : PyData → Ow → Prop}
structure BIE (S : Stc) (ss : List SS) (c : Addr) (ow : Ow) (cs : List PyData) (tg iter : Expr) (C : List PyData → List PyData → Prop) : Prop where
  run : ∀ (M0 : Addr → Prop) (σ : L2.St) (H : Hp), Hds S.K M0 ss ((c, cs) :: ow) σ H → ∀ R : It → Hp → Prop,
    (∀ cs' ds J H1, C cs' ds → Hds S.K M0 ss ((c, cs') :: ow) σ H1 → Rel ((c, cs) :: ow) H ((c, cs') :: ow) H1 → WalkD S.K (cut (Mk M0 ((c, cs') :: ow)) H1) J ds → R J H1) → tI S tg iter σ H R
theorem bie_range {tg : Expr} {C : List PyData → List PyData → Prop} (B0 : Blt S.mg) (hg : IsG S "range") (he : ∀ env : Env, starEach [e] env = [(false, eval e env)]) (ha : BE S ss c ow cs e fun cs' d => ∃ n : Int, d = .int n ∧ n ≤ 100000 ∧ -100000 ≤ n ∧ C cs' ((List.range n.toNat).map fun k => .int (k : Nat))) :
    BIE S ss c ow cs tg (.Call (.Name "range" p) [e] [] pos) C := .mk fun M0 σ H g R q =>
  ⟨iRng1 (tA S [e]), fun X F => pi_range1 (gl_of F hg) (by rw [F.mg]; exact B0.range) (pa_tA F) (he _), (bae_cons (C := fun cs2 ds2 => ∃ n : Int, ds2 = [.int n] ∧ n ≤ 100000 ∧ -100000 ≤ n ∧ C cs2 ((List.range n.toNat).map fun k => .int (k : Nat))) (be_mono ha fun cs' d h => bae_nil (by obtain ⟨n, rfl, h⟩ := h; exact ⟨n, rfl, h⟩)) fun env => he env).run M0 σ H g _ fun cs' ds vs H1 hC g1 r1 hv => by
    obtain ⟨n', rfl, hn, hn2, hC⟩ := hC
    obtain ⟨v, rfl, hv1⟩ := one_of hv
    have hv' : v = .int n' := by cases hv1; rfl
    subst hv'
    refine ⟨n', rfl, by omega, by omega, q cs' _ _ H1 hC g1 r1 fun i H2 e2 => ⟨fun d hi => ?_, fun hi => ?_⟩⟩
    · rw [List.getElem?_map, Option.map_eq_some_iff] at hi
      obtain ⟨k, hk, rfl⟩ := hi
      obtain ⟨hlt, hk⟩ := List.getElem?_eq_some_iff.mp hk
      rw [List.getElem_range] at hk
      subst hk
      rw [List.length_range] at hlt
      refine ⟨hlt, fun x H3 hy => ?_⟩
      obtain ⟨rfl, rfl⟩ := hy
      refine ⟨Ex.refl _, fun M' _ _ => ?_⟩
      rw [Int.zero_add]
      exact .int _
    · have h := List.getElem?_eq_none_iff.mp hi
      rw [List.length_map, List.length_range] at h
      exact h⟩
theorem r_forE {tg iter : Expr} {body : List Stmt} (hi : BIE S ss c ow cs tg iter fun cs1 ds => ∃ Iv : Nat → List SS → Ow → Prop, Iv 0 ss ((c, cs1) :: ow) ∧ (∀ i ss' ow', Iv i ss' ow' → ow'.map (·.1) = c :: ow.map (·.1)) ∧
      (∀ (i : Nat) (d : PyData) ss' ow', ds[i]? = some d → Iv i ss' ow' → ∃ ss2 js, BG S tg d ss' ss2 js ∧ R S ss2 ow' body (Iv (i + 1)) rt) ∧ ∀ ss' ow', Iv ds.length ss' ow' → R S ss' ow' rest nx rt)
    (hs : ∀ (env : Env) x, foldedSetIterable iter env x = pure x) : R S ss ((c, cs) :: ow) (.For tg iter body [] pos :: rest) nx rt := fun M0 σ H gd D hn hr =>
  tSs_cons ⟨tFor (tI S tg iter) (tG S tg) (tSs S body), fun X F => ps_for (by rw [F.xe]; exact PassesOwn.never) F.calm (pi_tI F) (pg_tG F) (pss_tSs F) (hs _), hi.run M0 σ H gd _ fun cs1 ds J H1 hC g1 rr1 hw => by
    obtain ⟨Iv, h0, hk, turn, hend⟩ := hC
    refine ⟨fun i m σ' H' => ∃ ss' ow', m = ds.length - i ∧ i ≤ ds.length ∧ Iv i ss' ow' ∧ Hds S.K M0 ss' ow' σ' H' ∧ Rel ((c, cs1) :: ow) H1 ow' H', ⟨ds.length, ss, _, by simp, Nat.zero_le _, h0, g1, Rel.refl _ H1⟩, fun i m σ' H' hW => ?_⟩
    obtain ⟨ss', ow', rfl, hile, hI, g', r'⟩ := hW
    have hmk : ∀ a, Mk M0 ow' a → Mk M0 ((c, cs1) :: ow) a := fun a h => by
      unfold Mk at h ⊢
      rw [hk i ss' ow' hI] at h
      exact h
    have ex0 : Ex (cut (Mk M0 ((c, cs1) :: ow)) H1) H' := fun a o h => by
      obtain ⟨n, h⟩ := cut_some.mp h
      exact r'.1 a o h fun z => n (.inr z)
    have r0 : Rel ((c, cs) :: ow) H ow' H' := rr1.trans r'
    obtain ⟨wgo, wstop⟩ := hw i H' ex0
    by_cases hlt : i < ds.length
    · obtain ⟨go, yl⟩ := wgo ds[i] (List.getElem?_eq_getElem hlt)
      refine .inr ⟨go, fun σ2 H2 => ∃ ss2 ow2, Iv (i + 1) ss2 ow2 ∧ Hds S.K M0 ss2 ow2 σ2 H2 ∧ Rel ((c, cs1) :: ow) H1 ow2 H2, fun σ2 H2 ⟨ss2, ow2, q1, q2, q3⟩ => ⟨ds.length - (i + 1), by omega, ss2, ow2, rfl, hlt, q1, q2, q3⟩, fun x H2 hy => ?_⟩
      obtain ⟨ex2, hx⟩ := yl x H2 hy
      have hxd : Dp S.K (cut (Mk M0 ow') H2) x ds[i] := hx _ g'.mk_dom fun a o h z => (cut_some.mp h).1 (hmk a z)
      obtain ⟨ss2, js, hbg, hR⟩ := turn i ds[i] ss' ow' (List.getElem?_eq_getElem hlt) hI
      refine hbg.run M0 ow' σ' H2 x (g'.ex ex2) hxd _ fun σ2 g2 _ => ?_
      have r2 : Rel ((c, cs1) :: ow) H1 ow' H2 := r'.trans (Rel.of_ex ex2)
      refine hR M0 σ2 H2 g2 _ (fun ss3 ow3 σ3 H3 n g3 r3 => ⟨ss3, ow3, n, g3, r2.trans r3⟩) fun d ow3 ss3 σ3 v H3 n g3 r3 hd => hr d ow3 ss3 σ3 v H3 n g3 ((rr1.trans r2).trans r3) hd
    · have ei : i = ds.length := by omega
      subst ei
      exact .inl ⟨wstop (List.getElem?_eq_none_iff.mpr (Nat.le_refl _)), (hend ss' ow' hI).at_ g' r0 hn hr⟩⟩
/-! comprehensions -/
theorem Hds.rebase {K : PySem.W.Frag} {M0 : Addr → Prop} {ss2 : List SS} {σ σ2 : L2.St} {H H2 : Hp} (g : Hds K M0 ss ((c, cs) :: ow) σ H) (g2 : Hds K M0 ss2 ((c, cs') :: ow) σ2 H2) (r : Rel ((c, cs) :: ow) H ((c, cs') :: ow) H2) : Hds K M0 ss ((c, cs') :: ow) σ H2 :=
  ⟨g2.m0, g2.dj, g2.nd, g2.own, g.len, fun i s hs => let ⟨o, h1, h2⟩ := g.sl i s hs; ⟨o, h1, h2.mono (rel_ex r)⟩⟩
theorem Hds.updM {K : PySem.W.Frag} {M0 : Addr → Prop} {σ : L2.St} {H : Hp} {D : Addr} {o : HO} (g : Hds K M0 ss ow σ H) (h : M0 D) : Hds K M0 ss ow σ (upd H D o) := by
  have hc := cut_upd (H := H) (o := o) (M := Mk M0 ow) (D := D) (.inl h)
  refine ⟨fun a ha => ?_, g.dj, g.nd, fun p hp => ?_, g.len, fun i s hs => let ⟨o, h1, h2⟩ := g.sl i s hs; ⟨o, h1, h2.mono hc⟩⟩
  · by_cases e : a = D
    · rw [e, upd_same]; exact fun z => nomatch z
    · rw [upd_ne e]; exact g.m0 a ha
  · obtain ⟨vs, h1, h2⟩ := g.own p hp
    have e : p.1 ≠ D := fun z => g.dj p hp (by rw [z]; exact h)
    exact ⟨vs, by rw [upd_ne e]; exact h1, h2.mono hc⟩
theorem Hds.less {K : PySem.W.Frag} {M0 M1 : Addr → Prop} {σ : L2.St} {H : Hp} (g : Hds K M1 ss ow σ H) (h : ∀ a, M0 a → M1 a) : Hds K M0 ss ow σ H := by
  have hc : Ex (cut (Mk M1 ow) H) (cut (Mk M0 ow) H) := fun a o q => by
    obtain ⟨n, q⟩ := cut_some.mp q
    exact cut_of (fun z => n (z.elim (fun z => .inl (h a z)) .inr)) q
  exact ⟨fun a ha => g.m0 a (h a ha), fun p hp z => g.dj p hp (h _ z), g.nd, fun p hp => let ⟨vs, h1, h2⟩ := g.own p hp; ⟨vs, h1, h2.mono hc⟩, g.len, fun i s hs => let ⟨o, h1, h2⟩ := g.sl i s hs; ⟨o, h1, h2.mono hc⟩⟩
theorem Rel.updNew {ow ow' : Ow} {H H4 : Hp} {D : Addr} {o : HO} (r : Rel ow H ow' H4) (hD : H D = none) : Rel ow H ow' (upd H4 D o) := ⟨fun a u h n => by
  rw [upd_ne (fun z => by rw [z, hD] at h; cases h)]
  exact r.1 a u h n, r.2⟩
theorem lcE_read {α : Type} {tg iter elt : Expr} {scope : Scope} {vs : List Nat} {as : List α} {g : α → PyData} {C : List PyData → PyData → Prop} (Iv : Nat → List PyData → List PyData → Prop)
    (hi : BI S ss ((c, cs) :: ow) tg iter (as.map g)) (hl : as.length ≤ 100000) (h0 : Iv 0 cs []) (hlen : ∀ i csi outs, Iv i csi outs → outs.length = i)
    (turn : ∀ i a csi outs, as[i]? = some a → Iv i csi outs → ∃ ss2 js, (∀ j ∈ js, j ∈ vs) ∧ BG (S.blk scope) tg (g a) (wipeS ss vs) ss2 js ∧ BE (S.blk scope) ss2 c ow csi elt fun cs' d => Iv (i + 1) cs' (outs ++ [d]))
    (hend : ∀ cs' outs, Iv as.length cs' outs → C cs' (.list outs)) {M0 : Addr → Prop} {σ : L2.St} {H : Hp} (gd : Hds S.K M0 ss ((c, cs) :: ow) σ H) (Q : VK)
    (q : ∀ cs' d v H2, C cs' d → Hds S.K M0 ss ((c, cs') :: ow) σ H2 → Rel ((c, cs) :: ow) H ((c, cs') :: ow) H2 → Dp S.K (cut (Mk M0 ((c, cs') :: ow)) H2) v d → Q v H2) :
    tLc (tI S tg iter) (tG (S.blk scope) tg) (tTs (S.blk scope) []) (tE (S.blk scope) elt) vs σ H Q := hi.run M0 σ H gd _ fun J H1 e1 hw D hD => by
  have g1 := gd.ex e1
  refine ⟨fun i m H' => m = as.length - i ∧ i ≤ as.length ∧ ∃ csi outs acc, Iv i csi outs ∧ Hds S.K (fun a => M0 a ∨ a = D) ss ((c, csi) :: ow) σ H' ∧ Rel ((c, cs) :: ow) H1 ((c, csi) :: ow) H' ∧ H' D = some (.lst acc) ∧ DpAll S.K (cut (Mk (fun a => M0 a ∨ a = D) ((c, csi) :: ow)) H') acc outs,
    ⟨as.length, by simp, Nat.zero_le _, cs, [], [], h0, g1.more hD (Ex.new hD) (by rw [upd_same]; exact fun z => nomatch z), Rel.of_ex (Ex.new hD), upd_same, .nil⟩, fun i m H' hW => ?_⟩
  obtain ⟨rfl, hile, csi, outs, acc, hIv, gM, rM, hacc, hda⟩ := hW
  have ex1 : Ex (cut (Mk M0 ((c, cs) :: ow)) H1) H' := fun a o h => by
    obtain ⟨n, h⟩ := cut_some.mp h
    exact rM.1 a o h fun z => n (.inr z)
  obtain ⟨wgo, wstop⟩ := hw i H' ex1
  by_cases hlt : i < as.length
  · obtain ⟨go, yl⟩ := wgo (g as[i]) (by rw [List.getElem?_map, List.getElem?_eq_getElem hlt]; rfl)
    refine .inr ⟨go, fun H2 => ∃ csi outs acc, Iv (i + 1) csi outs ∧ Hds S.K (fun a => M0 a ∨ a = D) ss ((c, csi) :: ow) σ H2 ∧ Rel ((c, cs) :: ow) H1 ((c, csi) :: ow) H2 ∧ H2 D = some (.lst acc) ∧ DpAll S.K (cut (Mk (fun a => M0 a ∨ a = D) ((c, csi) :: ow)) H2) acc outs, fun H2 hN => ⟨as.length - (i + 1), by omega, rfl, hlt, hN⟩, fun x H2 hy => ?_⟩
    obtain ⟨ex2, hx⟩ := yl x H2 hy
    have hxd : Dp S.K (cut (Mk (fun a => M0 a ∨ a = D) ((c, csi) :: ow)) H2) x (g as[i]) := hx _ gM.mk_dom fun a o h z => by
      obtain ⟨n, h⟩ := cut_some.mp h
      rcases z with (z | z) | z
      · exact n (.inl z)
      · rw [z, hD] at h; cases h
      · exact n (.inr z)
    obtain ⟨ss2, js, hjs, hbg, hbe⟩ := turn i as[i] csi outs (List.getElem?_eq_getElem hlt) hIv
    refine hbg.run _ _ _ H2 x ((gM.ex ex2).wipe vs) hxd _ fun σ2 g2 hw2 => ⟨(hw2 vs hjs).trans (wipe_wipe vs), ?_⟩
    refine bts_nil.run _ σ2 H2 g2 _ fun H3 e3 => ?_
    rw [if_pos rfl]
    refine hbe.run _ σ2 H3 (g2.ex e3) _ fun cs4 d y H4 hIv4 g4 r4 hyd => ?_
    have r24 : Rel ((c, csi) :: ow) H' ((c, cs4) :: ow) H4 := (Rel.of_ex (ex2.trans e3)).trans r4
    have hDn : D ∉ ((c, csi) :: ow).map (·.1) := fun z => by
      obtain ⟨p, hp, ep⟩ := List.mem_map.mp z
      exact gM.dj p hp (.inr ep)
    have hacc4 : H4 D = some (.lst acc) := r24.1 _ _ hacc hDn
    have gN := gM.rebase g4 r24
    refine ⟨acc, hacc4, ?_, cs4, outs ++ [d], acc ++ [y], hIv4, gN.updM (.inr rfl), (rM.trans r24).updNew hD, upd_same, ?_⟩
    · have h1 := hda.length
      have h2 := hlen _ _ _ hIv
      exact sz_lt (by omega)
    · exact ((hda.mono (rel_ex r24)).append (.cons hyd .nil)).mono (cut_upd (.inl (.inr rfl)))
  · have ei : i = as.length := by omega
    subst ei
    refine .inl ⟨wstop (by rw [List.getElem?_eq_none_iff, List.length_map]; exact Nat.le_refl _), ?_⟩
    have hDm : ¬ Mk M0 ((c, csi) :: ow) D := by
      rw [← mk_head (ds := cs)]
      exact fun z => g1.mk_dom D z hD
    refine q csi (.list outs) (.ref D) H' (hend _ _ hIv) (gM.less fun _ => .inl) ((Rel.of_ex e1).trans rM) (.lst (.inl (.inl (cut_of hDm hacc))) (hda.mono fun a o h => ?_))
    obtain ⟨n, h⟩ := cut_some.mp h
    exact cut_of (fun z => n (by
      rcases z with z | z
      · exact .inl (.inl z)
      · exact .inr z)) h
theorem be_lc {α : Type} {tg iter elt : Expr} {scope : Scope} {as : List α} {g : α → PyData} {C : List PyData → PyData → Prop} (own : List (Str × Nat)) (ok : blkC S.N S.sc scope own = true) (Iv : Nat → List PyData → List PyData → Prop)
    (hi : BI S ss ((c, cs) :: ow) tg iter (as.map g)) (hl : as.length ≤ 100000) (h0 : Iv 0 cs []) (hlen : ∀ i csi outs, Iv i csi outs → outs.length = i)
    (turn : ∀ i a csi outs, as[i]? = some a → Iv i csi outs → ∃ ss2 js, (∀ j ∈ js, j ∈ own.map (·.2)) ∧ BG (S.blk scope) tg (g a) (wipeS ss (own.map (·.2))) ss2 js ∧ BE (S.blk scope) ss2 c ow csi elt fun cs' d => Iv (i + 1) cs' (outs ++ [d]))
    (hend : ∀ cs' outs, Iv as.length cs' outs → C cs' (.list outs)) (hs : ∀ (env : Env) x, foldedSetIterable iter env x = pure x) : BE S ss c ow cs (.ListComp elt [⟨tg, iter, [], 0⟩] scope pos) C := .mk fun M0 σ H gd Q q =>
  ⟨tLc (tI S tg iter) (tG (S.blk scope) tg) (tTs (S.blk scope) []) (tE (S.blk scope) elt) (own.map (·.2)), fun X F => pe_lc F.calm (by rw [F.N]; exact F.nd) (pi_tI F) (by rw [F.N, F.sc]; exact blkOk_by ok)
    (fun _ _ _ _ _ => pg_tG (fits_blk F)) (fun _ _ _ _ _ => pts_tTs (fits_blk F)) (fun _ _ _ _ _ => pe_tE (fits_blk F)) (hs _), lcE_read Iv hi hl h0 hlen turn hend gd Q q⟩
end
/-! ### defs -/
section
variable {P : Program} {w : World} {K : PySem.W.Frag} {mg : Str → Option Value} {base : Heap}
theorem start_hdsE {N : List Str} {M : Addr → Prop} {c : Addr} {us ws : List V} {ds cs : List PyData} {H : Hp} (hM : ∀ a, M a → H a ≠ none) (hc : H c = some (.lst ws)) (hMc : ¬ M c) (hw : DpAll K (cut (Mk M [(c, cs)]) H) ws cs) (hd : DpAll K (cut (Mk M [(c, cs)]) H) us ds) (hl : us.length + 1 ≤ N.length) :
    Hds K M (.adr c :: (ds.map SS.dat ++ List.replicate (N.length - (ds.length + 1)) SS.any)) [(c, cs)] (L2.start N (.ref c :: us)) H := by
  have hlen := hd.length
  refine ⟨hM, fun p hp => ?_, by simp, fun p hp => ?_, ?_, fun i s hs => ?_⟩
  · rcases List.mem_singleton.mp hp with rfl
    exact hMc
  · rcases List.mem_singleton.mp hp with rfl
    exact ⟨ws, hc, hw⟩
  · unfold L2.start
    simp only [List.length_append, List.length_map, List.length_replicate, List.length_cons]
    omega
  · unfold L2.start
    match i with
    | 0 =>
      rw [List.getElem?_cons_zero] at hs
      cases hs
      exact ⟨some (.ref c), rfl, rfl⟩
    | i + 1 =>
      rw [List.getElem?_cons_succ] at hs
      rw [List.map_cons, List.cons_append, List.getElem?_cons_succ]
      by_cases hi : i < ds.length
      · rw [List.getElem?_append_left (by rw [List.length_map]; exact hi), List.getElem?_map, List.getElem?_eq_getElem hi] at hs
        cases hs
        obtain ⟨v, hv, hvd⟩ := hd.get (List.getElem?_eq_getElem hi)
        exact ⟨some v, by rw [List.getElem?_append_left (by rw [List.length_map, hlen]; exact hi), List.getElem?_map, hv]; rfl, v, rfl, hvd⟩
      · have h2 : s = .any := by
          rw [List.getElem?_append_right (by rw [List.length_map]; omega), List.getElem?_replicate] at hs
          split at hs
          · exact (Option.some.inj hs).symm
          · cases hs
        have h3 : i + 1 < N.length := by
          have := (List.getElem?_eq_some_iff.mp hs).1
          rw [List.length_append, List.length_map, List.length_replicate] at this
          omega
        subst h2
        refine ⟨none, ?_, trivial⟩
        rw [List.getElem?_append_right (by rw [List.length_map, hlen]; omega), List.getElem?_replicate, if_pos (by simp only [List.length_map, List.length_cons]; omega)]
theorem fn_E {x qual : Str} {st : Stmt} {f : Addr} {fd : FuncData} {N ps : List Str} {k n : Nat} {Pre : List PyData → List PyData → Prop} {Post : List PyData → List PyData → List PyData → PyData → Prop} (F : Fun K x qual st f fd) (Sc : FnScope N ps (defScope st)) (hg : mg x = some (.ref f)) (hb : Binds K fd ps []) (ba : Bas P mg base) (h32 : 32 ≤ k) (hn : ps.length = n)
    (body : ∀ c cs ds, Pre cs ds → ds.length + 1 = n → R (stc P w K mg base N st k) (.adr c :: (ds.map SS.dat ++ List.replicate (N.length - n) SS.any)) [(c, cs)] (defBody st) (fun _ _ => False) (fun d' ow' => ∃ cs', ow' = [(c, cs')] ∧ Post cs ds cs' d')) : Def P w K mg base x ps (k + 1) (spE K n Pre Post) := by
  refine ⟨f, fd, F.ok Sc (fun vs H Q E h => h.1.trans hn.symm) fun cdv A outer s H vs Q E hr h => ?_, hg, F.kp, hb⟩
  obtain ⟨hlen, c, us, ws, M, cs, ds, rfl, hc, hMc, hM, hw, hd, hR, q⟩ := h
  have Ft := fits_def (w := w) (K := K) (H := H) (E := E) (outer := outer) (x := x) Sc ba h32 hr
  have hps : ps.length ≤ N.length := by
    have h1 := congrArg List.length Sc.pre
    rw [List.length_take] at h1
    omega
  have hdl : ds.length + 1 = n := by rw [← hd.length]; simpa using hlen
  have hul := hd.length
  refine ⟨tSs (stc P w K mg base N st k) (defBody st), pss_tSs Ft, ?_⟩
  have g := start_hdsE (N := N) hM hc hMc hw hd (by omega)
  rw [hdl] at g
  refine body c cs ds hR hdl M _ H g _ (fun ss' ow' σ' H' hx g' r' => hx.elim) fun d' ow' ss' σ' v H' hx g' r' hv => ?_
  obtain ⟨cs', rfl, hp⟩ := hx
  obtain ⟨ws', h1, h2⟩ := g'.own _ List.mem_cons_self
  have hmm : Mk M [(c, cs')] = Mk M [(c, cs)] := mk_head
  rw [hmm] at h2 hv
  exact q cs' d' v H' ws' hp (fun a o h n => r'.1 a o h fun z => n (by simpa using z)) h1 h2 hv
/-- a def's promise: a new list -/
def spL (K : PySem.W.Frag) (n : Nat) (Rl : List PyData → List PyData → Prop) : Sp := fun vs H Q _ => vs.length = n ∧ ∃ (M : Addr → Prop) (ds cs : List PyData), (∀ a, M a → H a ≠ none) ∧ DpAll K (cut M H) vs ds ∧ Rl ds cs ∧
  ∀ p ws H2, H p = none → Ex H H2 → H2 p = some (.lst ws) → DpAll K (cut (fun a => M a ∨ a = p) H2) ws cs → Q (.ref p) H2
theorem fn_L {x qual : Str} {st : Stmt} {f : Addr} {fd : FuncData} {N ps : List Str} {k n : Nat} {Rl : List PyData → List PyData → Prop} {e : Expr} {pos : Pos} (F : Fun K x qual st f fd) (Sc : FnScope N ps (defScope st)) (hg : mg x = some (.ref f)) (hb : Binds K fd ps []) (ba : Bas P mg base) (h32 : 32 ≤ k) (hn : ps.length = n)
    (hbody : defBody st = [.Return (some e) pos]) (body : ∀ ds cs, Rl ds cs → ds.length = n → BL (stc P w K mg base N st k) (ds.map SS.dat ++ List.replicate (N.length - n) SS.any) [] e cs) : Def P w K mg base x ps (k + 1) (spL K n Rl) := by
  refine ⟨f, fd, F.ok Sc (fun vs H Q E h => h.1.trans hn.symm) fun cdv A outer s H vs Q E hr h => ?_, hg, F.kp, hb⟩
  obtain ⟨hlen, M, ds, cs, hM, hd, hR, q⟩ := h
  have Ft := fits_def (w := w) (K := K) (H := H) (E := E) (outer := outer) (x := x) Sc ba h32 hr
  have hps : ps.length ≤ N.length := by
    have h1 := congrArg List.length Sc.pre
    rw [List.length_take] at h1
    omega
  have hdl : ds.length = n := by rw [← hd.length]; exact hlen
  refine ⟨tSs (stc P w K mg base N st k) (defBody st), pss_tSs Ft, ?_⟩
  have g := start_hds (N := N) hM hd (by omega)
  rw [hdl] at g
  rw [hbody]
  refine tSs_cons ⟨tRet (tE _ e), fun X F => ps_ret (pe_tE F), (body ds cs hR hdl).run M _ H g _ fun p ws H2 hp e2 h2 hv => ?_⟩
  refine q p ws H2 hp e2 h2 (hv.mono fun a o h => ?_)
  obtain ⟨n, h⟩ := cut_some.mp h
  exact cut_of (fun z => n (z.elim (fun z => .inl (.inl z)) .inr)) h
end
section
variable {S : Stc} {ss : List SS} {ow : Ow} {e : Expr} {es : List Expr} {cs ds : List PyData} {pos p : Pos} {x : Str}
theorem bl_callL {ps : List Str} {k nn : Nat} {Rl : List PyData → List PyData → Prop} (D : Def S.P S.w S.K S.mg S.base x ps k (spL S.K nn Rl)) (hk : k ≤ S.k) (hg : IsG S x) (ha : BA S ss ow (e :: es) ds) (hr : Rl ds cs) (hn : ds.length = nn)
    (he : ∀ env : Env, starEach (e :: es) env = (false, eval e env) :: starEach es env) (hpl : ∀ env : Env, (backTo pos (starEach es env)).any (·.1) = false) (hdb : okN x = true) : BL S ss ow (.Call (.Name x p) (e :: es) [] pos) cs := .mk fun M0 σ H g Q q => by
  obtain ⟨f, fd, h1, h2, h3, h4⟩ := D
  refine ⟨tCall (spL S.K nn Rl) [] E0 (tA S (e :: es)), fun X F => ?_, ha.run M0 σ H g _ fun vs H1 e1 hv => ?_⟩
  · have h1' : FnOk X.prog X.w X.K X.mg X.base CX0 k f fd ps (spL S.K nn Rl) := by rw [F.prog, F.w, F.K, F.mg, F.base]; exact h1
    exact pe_call h1' (F.room.mono hk) (gl_of F hg) (by rw [F.mg]; exact h2) (by rw [F.K]; exact h3) (by rw [F.K]; exact h4) .nil pass0 (pa_tA F) (okN_1 hdb) (he _) (hpl _)
  · show spL S.K nn Rl (vs ++ []) H1 Q E0
    rw [List.append_nil]
    exact ⟨by rw [hv.length]; exact hn, Mk M0 ow, ds, cs, (g.ex e1).mk_dom, hv, hr, fun p ws H2 hp e2 h2 h => q p ws H2 (fresh_back e1 hp) (e1.trans e2) h2 h⟩
end
end Mf
end

-- text W9
section
set_option Elab.async false
set_option linter.all false
set_option autoImplicit false
set_option maxRecDepth 100000
set_option maxHeartbeats 200000
/-! W9: tests with effects, repr, a call by keywords only. -/
namespace Mf
open PySem PySem.Spec PyProof.Rows L2 Evl
section
variable {S : Stc} {ss : List SS} {ow : Ow} {c l : Addr} {cs cs' : List PyData} {e a b : Expr} {es : List Expr} {d d1 d2 : PyData} {ds ds1 ds2 : List PyData} {pos p p' : Pos} {x y : Str} {i j : Nat} {n m : Int} {t : Bool} {rest : List Expr}
theorem be_repr {C : List PyData → PyData → Prop} (B0 : Blt S.mg) (he : ∀ env : Env, starEach [e] env = (false, eval e env) :: starEach [] env) (hg : IsG S "repr") (ha : BE S ss c ow cs e fun cs' d => ∃ n : Int, d = .int n ∧ n.natAbs.log2 < 1920 ∧ C cs' (.str (toString n))) : BE S ss c ow cs (.Call (.Name "repr" p) [e] [] pos) C := .mk fun M0 σ H g Q q =>
  ⟨tCB _ (tCons (tE S e) tNil), fun X F => pe_callB SkE.call_repr_int (gl_of F hg) (by rw [F.mg]; exact B0.repr) boot_repr (pa_cons (pe_tE F) pa_nil (he _)) (he := he _), ha.run M0 σ H g _ fun cs' d v H1 h1 g1 r1 hv => by
    obtain ⟨n', rfl, hn, hC⟩ := h1
    have hv' : v = .int n' := by cases hv; rfl
    subst hv'
    exact ⟨n', rfl, hn, q cs' _ _ H1 hC g1 r1 (.str _)⟩⟩
theorem bte_neS {C : List PyData → Bool → Prop} (ha : BE S ss c ow cs a fun cs1 d => ∃ z1 z2 : Str, d = .str z1 ∧ B S ss ((c, cs1) :: ow) b (.str z2) ∧ C cs1 (!decide (z1 = z2))) (hm : behindInMarks .NotEq b = false) : BTE S ss c ow cs (.Compare a [.NotEq] [b] pos) C := .mk fun M0 σ H g Q q =>
  ⟨tTest (tOp rNe (tE S a) (tE S b)), fun X F => pt_cmpR op_ne (pe_tE F) (pe_tE F) hm, ha.run M0 σ H g _ fun cs1 d v H1 h1 g1 r1 hv => by
    obtain ⟨z1, z2, rfl, hb, hC⟩ := h1
    have hv' : v = .str z1 := by cases hv; rfl
    subst hv'
    refine hb.run M0 σ H1 g1 _ fun u H2 e2 hu => ?_
    have hu' : u = .str z2 := by cases hu; rfl
    subst hu'
    refine ⟨rfl, !decide (z1 = z2), ?_, q cs1 _ H2 hC (g1.ex e2) (r1.trans (Rel.of_ex e2))⟩
    have e : decide (V.str z1 = V.str z2) = decide (z1 = z2) := decide_eq_decide.mpr ⟨fun z => by injection z, fun z => by rw [z]⟩
    rw [e]⟩
theorem bte_or {C : List PyData → Bool → Prop} (h1 : BTE S ss c ow cs a fun cs1 t => ∃ u, (t = false → BW S ss ((c, cs1) :: ow) (.BoolOp .Or (b :: rest) pos) u) ∧ C cs1 (t || u)) : BTE S ss c ow cs (.BoolOp .Or (a :: b :: rest) pos) C := .mk fun M0 σ H g Q q =>
  ⟨tOr (tT S a) (tW S (.BoolOp .Or (b :: rest) pos)), fun X F => (pw_or (pt_tT F) (pw_tW F)).pt, h1.run M0 σ H g _ fun cs1 t H1 hz g1 r1 => by
    obtain ⟨u, h2, hC⟩ := hz
    cases t with
    | true =>
      show Q true H1
      exact q cs1 true H1 hC g1 r1
    | false =>
      show tW S _ σ H1 Q
      exact (h2 rfl).run M0 σ H1 g1 Q fun H2 e2 => q cs1 u H2 hC (g1.ex e2) (r1.trans (Rel.of_ex e2))⟩
end
/-! a call by three keywords -/
structure KB0 (K : PySem.W.Frag) (fd : FuncData) (ps ks : List Str) : Prop where
  to : ∀ (s : Shared) (ws : List Value), K.In s.heap → ws.length = ps.length → BindsTo s fd ⟨[], ks.zip ws⟩ (ps.zip ws.reverse)
section
variable {X : Cx} {CX : CXT} {k : Nat} {f : Addr} {fd : FuncData} {ps ks : List Str} {sp : Sp} {E : XK} {x : Str} {p pos : Pos} {kws : List Keyword} {tk : TA}
theorem run_fnk0 {pins : List (Addr × Obj)} {σ : L2.St} {H : Hp} {s : Shared} {Q : VK} {ws : List Value} {zs : List V} (F : FnOk X.prog X.w X.K X.mg X.base CX k f fd ps sp) (hr : Room k X.A) (hb : KB0 X.K fd ps ks) (hx : Passes CX X E)
    (I : Inv X pins σ H s) (rz : Vals zs ws) (h : sp zs.reverse H Q E) : wpAny (model X.prog X.w) X.A (call (.ref f) [] (ks.zip ws)) (EP X pins σ Q) X.xe s := by
  have r2 : Vals zs.reverse ws.reverse := by
    clear h
    induction rz with
    | nil => exact .nil
    | cons h1 h2 ih =>
      rw [List.reverse_cons, List.reverse_cons]
      exact ih.append (.cons h1 .nil)
  have hl : ws.length = ps.length := by rw [← F.len _ _ _ _ h, List.length_reverse, rz.length]
  refine wpAny_call (codeAny_mono (F.run X.A X.stack s H ⟨[], ks.zip ws⟩ ws.reverse zs.reverse Q E hr I.env0 (hb.to s ws I.kIn hl) r2 h) fun r s' hq => ?_)
  cases r with
  | error e => exact hx pins σ H s e s' I hq
  | ok fl =>
    cases fl with
    | ret u => exact I.after hq
    | next => exact False.elim hq
    | brk => exact False.elim hq
    | cont => exact False.elim hq
def tCallK0 (sp : Sp) (E : XK) (tk : TA) : TE := fun σ H Q => tk σ H fun zs H2 => sp zs.reverse H2 Q E
theorem pe_callK0 (F : FnOk X.prog X.w X.K X.mg X.base CX k f fd ps sp) (hr : Room k X.A) (hg : Gl X x) (hm : X.mg x = some (.ref f)) (hk : PySem.W.keepIn X.K (.ref f) = true) (hb : KB0 X.K fd ps ks) (hx : Passes CX X E)
    (hkw : PK X kws tk) (hall : (backToKw pos (keywordEach kws X.env)).all (·.1.isSome) = true) (hks : (backToKw pos (keywordEach kws X.env)).filterMap (·.1) = ks)
    (hdb : (x == ("__debug__" : Str)) = false)
    (hpl : ((backTo pos (starEach [] X.env)).any (·.1) || (backToKw pos (keywordEach kws X.env)).any (·.1.isNone)) = false) :
    PE X (.Call (.Name x p) [] kws pos) (tCallK0 sp E tk) := by
  refine ⟨fun pins s σ H Q I h => ?_⟩
  refine wpAny_Call_Name_kw (ld_glob I hg hm ?_ hdb)
  refine PySem.W.callWith_KW0 (h₀ := X.base) I.ok.mod.kin hk hall (thn (hkw.run pos pins s σ H _ I h) fun ws s2 ⟨zs, H2, I2, rz, q2⟩ => ⟨I2.kIn, ?_⟩) hpl
  rw [hks]
  exact run_fnk0 F hr hb hx I2 rz q2
end
section
variable {S : Stc} {ss : List SS} {ow : Ow} {e1 e2 e3 : Expr} {d d1 d2 d3 : PyData} {pos p p1 p2 p3 : Pos} {x n1 n2 n3 : Str}
def DefK (P : Program) (w : World) (K : PySem.W.Frag) (mg : Str → Option Value) (base : Heap) (x : Str) (ps ks : List Str) (k : Nat) (sp : Sp) : Prop :=
  ∃ (f : Addr) (fd : FuncData), FnOk P w K mg base CX0 k f fd ps sp ∧ mg x = some (.ref f) ∧ PySem.W.keepIn K (.ref f) = true ∧ KB0 K fd ps ks
theorem b_callK0 {ps ks : List Str} {k : Nat} {Rl : List PyData → PyData → Prop} (D : DefK S.P S.w S.K S.mg S.base x ps ks k (spR S.K 3 Rl)) (hk : k ≤ S.k) (hg : IsG S x) (h1 : B S ss ow e1 d1) (h2 : B S ss ow e2 d2) (h3 : B S ss ow e3 d3) (hr : Rl [d3, d2, d1] d)
    (hall : ∀ env : Env, (backToKw pos (keywordEach [⟨some n1, e1, p1⟩, ⟨some n2, e2, p2⟩, ⟨some n3, e3, p3⟩] env)).all (·.1.isSome) = true) (hks : ∀ env : Env, (backToKw pos (keywordEach [⟨some n1, e1, p1⟩, ⟨some n2, e2, p2⟩, ⟨some n3, e3, p3⟩] env)).filterMap (·.1) = ks) (hdb : okN x = true)
    (hpl : ∀ env : Env, ((backTo pos (starEach [] env)).any (·.1) || (backToKw pos (keywordEach [⟨some n1, e1, p1⟩, ⟨some n2, e2, p2⟩, ⟨some n3, e3, p3⟩] env)).any (·.1.isNone)) = false) : B S ss ow (.Call (.Name x p) [] [⟨some n1, e1, p1⟩, ⟨some n2, e2, p2⟩, ⟨some n3, e3, p3⟩] pos) d := .mk fun M0 σ H g Q q => by
  obtain ⟨f, fd, f1, f2, f3, f4⟩ := D
  refine ⟨tCallK0 (spR S.K 3 Rl) E0 (tCons (tE S e1) (tCons (tE S e2) (tCons (tE S e3) tNil))), fun X F => ?_, h1.run M0 σ H g _ fun v1 H1 x1 hv1 => h2.run M0 σ H1 (g.ex x1) _ fun v2 H2 x2 hv2 => h3.run M0 σ H2 (g.ex (x1.trans x2)) _ fun v3 H3 x3 hv3 => ?_⟩
  · have h1' : FnOk X.prog X.w X.K X.mg X.base CX0 k f fd ps (spR S.K 3 Rl) := by rw [F.prog, F.w, F.K, F.mg, F.base]; exact f1
    exact pe_callK0 h1' (F.room.mono hk) (gl_of F hg) (by rw [F.mg]; exact f2) (by rw [F.K]; exact f3) (by rw [F.K]; exact f4) pass0 (pk_cons (pe_tE F) (pk_cons (pe_tE F) (pk_cons (pe_tE F) pk_nil))) (hall _) (hks _) (okN_1 hdb) (hpl _)
  · refine ⟨rfl, Mk M0 ow, [d3, d2, d1], d, (g.ex ((x1.trans x2).trans x3)).mk_dom, .cons hv3 (.cons (hv2.mono (cut_ex x3)) (.cons (hv1.mono (cut_ex (x2.trans x3))) .nil)), hr, fun v H4 x4 h => q v H4 (((x1.trans x2).trans x3).trans x4) h⟩
end
end Mf
end

-- text L1
section
set_option Elab.async false
set_option linter.all false
set_option autoImplicit false
set_option maxRecDepth 100000
set_option maxHeartbeats 200000
namespace Mf
open PySem PySem.Spec PyProof.Rows L2 Evl
local macro_rules | `(tactic| walk_at "ix") => `(tactic| first | (with_reducible exact .here) | (with_reducible apply Ix.there; walk_at "ix"))
local macro_rules | `(tactic| walk_at "loc") => `(tactic| (refine loc_of ?_; kernel_rfl))
local macro_rules | `(tactic| walk_at "hk") => `(tactic| exact Nat.le_of_ble_eq_true rfl)
local macro_rules | `(tactic| walk_at "rel") => `(tactic| first | exact ⟨_, rfl, rfl⟩ | exact ⟨_, _, rfl, rfl⟩ | exact ⟨_, _, _, rfl, rfl⟩ | exact ⟨_, rfl, by assumption, rfl⟩ | exact ⟨_, _, rfl, by assumption, rfl⟩ | exact ⟨_, _, rfl, by assumption, by assumption, rfl⟩)
local macro_rules | `(tactic| walk_at "sw") => `(tactic| (intro env h; first | rfl | (cases env; cases h; rfl)))
/-- an expression, its side questions -/
local macro_rules | `(tactic| walk_at "bb") => `(tactic| first
  | ((with_reducible apply b_vi) <;> first | ((with_reducible show Ix _ _ _); walk_at "ix") | ((with_reducible show visB _ _ = true); kernel_rfl) | ((with_reducible show okN _ = true); kernel_rfl) | rfl)
  | ((with_reducible apply b_int) <;> walk_at "bb")
  | ((with_reducible apply b_bool) <;> walk_at "bb")
  | ((with_reducible apply b_non) <;> walk_at "bb")
  | ((with_reducible apply b_str) <;> walk_at "bb")
  | ((with_reducible apply b_add) <;> walk_at "bb")
  | ((with_reducible apply b_sub) <;> walk_at "bb")
  | ((with_reducible apply b_mul) <;> walk_at "bb")
  | ((with_reducible apply b_mod) <;> walk_at "bb")
  | ((with_reducible apply b_fdiv) <;> walk_at "bb")
  | ((with_reducible apply b_neg) <;> walk_at "bb")
  | ((with_reducible apply b_pow) <;> walk_at "bb")
  | ((with_reducible apply b_tup) <;> walk_at "bb")
  | ((with_reducible apply b_ixT) <;> walk_at "bb")
  | ((with_reducible apply b_ixL) <;> walk_at "bb")
  | ((with_reducible apply b_abs) <;> walk_at "bb")
  | ((with_reducible apply b_lenT) <;> walk_at "bb")
  | ((with_reducible apply b_lenL) <;> walk_at "bb")
  | ((with_reducible apply b_max2) <;> walk_at "bb")
  | ((with_reducible apply b_intI) <;> walk_at "bb")
  | ((with_reducible apply b_intB) <;> walk_at "bb")
  | ((with_reducible apply b_tupleL) <;> walk_at "bb")
  | ((with_reducible apply b_all) <;> walk_at "bb")
  | ((with_reducible apply b_sum) <;> walk_at "bb")
  | ((with_reducible apply b_if) <;> walk_at "bb")
  | ((with_reducible apply b_and) <;> walk_at "bb")
  | ((with_reducible apply b_or) <;> walk_at "bb")
  | ((with_reducible apply b_not) <;> walk_at "bb")
  | ((with_reducible apply b_one) <;> walk_at "bb")
  | ((with_reducible apply b_cmp) <;> walk_at "bb")
  | ((with_reducible apply ba_nil) <;> walk_at "bb")
  | ((with_reducible apply ba_cons) <;> walk_at "bb")
  | ((with_reducible apply b_callI) <;> walk_at "bb")
  | ((with_reducible apply bt_cmp) <;> walk_at "bb")
  | ((with_reducible apply bt_not) <;> walk_at "bb")
  | ((with_reducible show IsG _ _); kernel_rfl)
  | ((with_reducible show okN _ = true); kernel_rfl)
  | (with_reducible assumption)
  | (with_reducible exact CmpD.gt _ _)
  | (with_reducible exact CmpD.lt _ _)
  | (with_reducible exact CmpD.ge _ _)
  | (with_reducible exact CmpD.le _ _)
  | (with_reducible exact CmpD.eqI _ _)
  | (with_reducible exact CmpD.neI _ _)
  | ((with_reducible show _ = _); rfl)
  | ((with_reducible show (_ : Nat) ≤ _); first | walk_at "hk" | decide)
  | ((with_reducible show (0 : Int) < _); omega)
  | (intro _; rfl)
  | (intro _ _; rfl)
  | walk_at "rel")
section
variable {P : Program} {w : World} {K : PySem.W.Frag} {mg : Str → Option Value} {base : Heap}
/-! ### the counter -/
def rLCounter (ds cs : List PyData) : Prop := ∃ ns : List Int, ds = [il ns] ∧ ns.length ≤ 1000 ∧ cs = [il (ns.take 60), .int 0, .int 0]
abbrev DLCounter (P : Program) (w : World) (K : PySem.W.Frag) (mg : Str → Option Value) (base : Heap) := Def P w K mg base "_law_counter" ["_law_script"] 33 (spL K 1 rLCounter)
theorem ok_l_counter {f : Addr} {fd : FuncData} (F : Fun K "_law_counter" "_law_counter" sLCounter f fd) (hg : mg "_law_counter" = some (.ref f)) (hb : Binds K fd ["_law_script"] []) (ba : Bas P mg base) : DLCounter P w K mg base := by
  refine fn_L F scLCounter hg hb ba (by decide) rfl rfl fun ds cs hR _ => ?_
  obtain ⟨ns, rfl, hl, rfl⟩ := hR
  have B0 := ba.b0
  show BL _ [.dat (il ns), .any] [] _ _
  refine bl_lst (ba_cons (B.cast (bl_lc (as := ns.take 60) (g := .int) (f := fun _ => true) (v := .int) [("_law_cell", 1)] (by kernel_rfl) (BI.cast (bi_list (bl_slice (by walk_at "bb") bo_none (bo_some (n := 60) (by walk_at "bb"))).toB) (by rw [show (60 : Int) = ((60 : Nat) : Int) from rfl, cutD_take, List.map_take])) (by rw [List.length_take]; omega) (fun c hc => ?_) (fun _ _ => rfl)).toB ?_) (by walk_at "bb") (fun _ => rfl)) (Nat.le_of_ble_eq_true rfl)
  · refine ⟨_, [1], by simp, bg_name (i := 1) rfl (by walk_at "loc"), bts_nil, fun _ => ?_⟩
    show B _ [.dat (il ns), .dat (.int c)] _ _ (.int c)
    walk_at "bb"
  · rw [lcRes_all]
/-- the counter's content after at most N draws -/
def Cn (N : Nat) (cs : List PyData) : Prop := ∃ (cells : List Int) (turn : Nat) (left : Int), cs = [il cells, .int turn, .int left] ∧ turn ≤ N ∧ cells.length ≤ 100
theorem Cn.mono {N M : Nat} {cs : List PyData} (h : Cn N cs) (hn : N ≤ M) : Cn M cs := by
  obtain ⟨cells, turn, left, e, h1, h2⟩ := h
  exact ⟨cells, turn, left, e, by omega, h2⟩
/-! ### tally_up -/
def preTally (cs ds : List PyData) : Prop := ∃ N many, N ≤ 100000 ∧ Cn N cs ∧ ds = [.int many] ∧ 0 < many
def postTally (cs ds cs' : List PyData) (d : PyData) : Prop := (∀ N, Cn N cs → Cn (N + 1) cs') ∧ ∀ many : Int, ds = [.int many] → ∃ k : Int, d = .int k ∧ 0 ≤ k ∧ k < many
abbrev DTally (P : Program) (w : World) (K : PySem.W.Frag) (mg : Str → Option Value) (base : Heap) := Def P w K mg base "_law_tally_up" ["_law_counter_here", "_law_many_here"] 33 (spE K 2 preTally postTally)
theorem atI_3 {a b c : PyData} : atI [a, b, c] 0 = some a ∧ atI [a, b, c] 1 = some b ∧ atI [a, b, c] 2 = some c := ⟨rfl, rfl, rfl⟩
theorem ok_l_tally {f : Addr} {fd : FuncData} (F : Fun K "_law_tally_up" "_law_tally_up" sLTallyUp f fd) (hg : mg "_law_tally_up" = some (.ref f)) (hb : Binds K fd ["_law_counter_here", "_law_many_here"] []) (ba : Bas P mg base) : DTally P w K mg base := by
  refine fn_E F scLTallyUp hg hb ba (by decide) rfl fun c cs ds hR _ => ?_
  obtain ⟨N, many, hN, ⟨cells, turn, left, rfl, ht, hcl⟩, rfl, hm⟩ := hR
  have B0 := ba.b0
  have hc1 : ∀ left' : Int, ∀ N, Cn N [il cells, .int turn, .int left] → Cn (N + 1) [il cells, .int turn, .int left'] := fun left' N h => by
    obtain ⟨cl, tn, lf, e, h1, h2⟩ := h
    injection e with e1 e
    injection e with e2 e
    injection e2 with e2
    exact ⟨cells, turn, left', rfl, by omega, hcl⟩
  have hc2 : ∀ left' : Int, ∀ N, Cn N [il cells, .int turn, .int left] → Cn (N + 1) [il cells, .int ((turn : Int) + 1), .int left'] := fun left' N h => by
    obtain ⟨cl, tn, lf, e, h1, h2⟩ := h
    injection e with e1 e
    injection e with e2 e
    injection e2 with e2
    exact ⟨cells, turn + 1, left', rfl, by omega, hcl⟩
  have hend : ∀ (x : Int), ∀ many' : Int, [PyData.int many] = [PyData.int many'] → ∃ k : Int, PyData.int (x % many) = .int k ∧ 0 ≤ k ∧ k < many' := fun x many' e => by
    injection e with e
    injection e with e
    subst e
    exact ⟨_, rfl, Int.emod_nonneg _ (by omega), Int.emod_lt_of_pos _ hm⟩
  show R _ [.adr c, .dat (.int many), .any, .any, .any, .any] [(c, [il cells, .int turn, .int left])] _ _ _
  have rd : ∀ {ss : List SS} {left' : Int} {tn : Int} {px p1 p2 : Pos} {j : Nat}, ss[0]? = some (.adr c) → B (stc P w K mg base ["_law_counter_here", "_law_many_here", "_law_left", "_law_turn", "_law_cell", "_law_mixed"] sLTallyUp 32) ss [(c, [il cells, .int tn, .int left'])] (.Subscript (.Name "_law_counter_here" px) (.Constant (.int 0) j p1) p2) (il cells) := fun h => b_ixO (i := 0) (n := 0) h List.mem_cons_self rfl (vis_of (by kernel_rfl)) (by walk_at "bb") rfl (fun _ _ => rfl)
  have rd1 : ∀ {ss : List SS} {left' : Int} {tn : Int} {px p1 p2 : Pos} {j : Nat}, ss[0]? = some (.adr c) → B (stc P w K mg base ["_law_counter_here", "_law_many_here", "_law_left", "_law_turn", "_law_cell", "_law_mixed"] sLTallyUp 32) ss [(c, [il cells, .int tn, .int left'])] (.Subscript (.Name "_law_counter_here" px) (.Constant (.int 1) j p1) p2) (.int tn) := fun h => b_ixO (i := 0) (n := 1) h List.mem_cons_self rfl (vis_of (by kernel_rfl)) (by walk_at "bb") rfl (fun _ _ => rfl)
  have rd2 : ∀ {ss : List SS} {left' : Int} {tn : Int} {px p1 p2 : Pos} {j : Nat}, ss[0]? = some (.adr c) → B (stc P w K mg base ["_law_counter_here", "_law_many_here", "_law_left", "_law_turn", "_law_cell", "_law_mixed"] sLTallyUp 32) ss [(c, [il cells, .int tn, .int left'])] (.Subscript (.Name "_law_counter_here" px) (.Constant (.int 2) j p1) p2) (.int left') := fun h => b_ixO (i := 0) (n := 2) h List.mem_cons_self rfl (vis_of (by kernel_rfl)) (by walk_at "bb") rfl (fun _ _ => rfl)
  refine r_if (bt_cmp (.gt left 0) (rd2 rfl) (by walk_at "bb") rfl) (fun _ => ?_) fun _ => r_nil ?_
  · refine r_set (i := 2) (d := .int left) rfl (by walk_at "loc") (b_intI B0 (fun _ => rfl) rfl (rd2 rfl)) (by walk_at "sw") ?_
    show R _ [.adr c, .dat (.int many), .dat (.int left), .any, .any, .any] [(c, [il cells, .int turn, .int left])] _ _ _
    refine r_setO (i := 0) (n := 2) (j := 2) (d := .int (left / many)) rfl rfl (vis_of (by kernel_rfl)) (by walk_at "bb") (by walk_at "bb") rfl (fun _ _ => rfl) (by walk_at "sw") (by walk_at "sw") (fun _ => rfl) ?_
    exact r_ret (d := .int (left % many)) (by walk_at "bb") ⟨_, rfl, hc1 _, hend left⟩
  refine r_set (i := 3) (d := .int turn) rfl (by walk_at "loc") (rd1 rfl) (by walk_at "sw") ?_
  show R _ [.adr c, .dat (.int many), .any, .dat (.int turn), .any, .any] [(c, [il cells, .int turn, .int left])] _ _ _
  refine r_setO (i := 0) (n := 1) (j := 1) (d := .int ((turn : Int) + 1)) rfl rfl (vis_of (by kernel_rfl)) (by walk_at "bb") (by walk_at "bb") rfl (fun _ _ => rfl) (by walk_at "sw") (by walk_at "sw") (fun _ => rfl) ?_
  show R _ [.adr c, .dat (.int many), .any, .dat (.int turn), .any, .any] [(c, [il cells, .int ((turn : Int) + 1), .int left])] _ _ _
  have m1 : IntMulOk 904867 (turn : Int) := CMul.ok (.inl ⟨by decide, by decide⟩)
  refine r_set (i := 4) (d := .int (904867 * (turn : Int) + 8429)) rfl (by walk_at "loc") (by walk_at "bb") (by walk_at "sw") ?_
  show R _ [.adr c, .dat (.int many), .any, .dat (.int turn), .dat (.int (904867 * (turn : Int) + 8429)), .any] [(c, [il cells, .int ((turn : Int) + 1), .int left])] _ _ _
  have key : ∀ cell : Int, R (stc P w K mg base ["_law_counter_here", "_law_many_here", "_law_left", "_law_turn", "_law_cell", "_law_mixed"] sLTallyUp 32) [.adr c, .dat (.int many), .any, .dat (.int turn), .dat (.int cell), .any] [(c, [il cells, .int ((turn : Int) + 1), .int left])] ((defBody sLTallyUp).drop 5) (fun _ _ => False) (fun d' ow' => ∃ cs', ow' = [(c, cs')] ∧ postTally [il cells, .int turn, .int left] [.int many] cs' d') := fun cell => by
    have p18 : CPow 10 18 := ⟨by decide, by decide, by decide⟩
    refine r_if (t := decide ((turn : Int) < (cells.length : Nat)) && decide ((10 : Int) ^ (18 : Int).toNat ≤ (cell.natAbs : Nat))) (bt_w (bw_and (bt_cmp (.lt _ _) (by walk_at "bb") (B.cast (b_lenL B0 (fun _ => rfl) rfl (rd rfl)) (by rw [List.length_map])) rfl) fun _ => bw_and1 (bt_cmp (.ge _ _) (by walk_at "bb") (by walk_at "bb") rfl))) (fun _ => ?_) fun _ => r_nil ?_
    · have m2 : IntMulOk 2 (((cell.natAbs : Nat) : Int) - (10 : Int) ^ (18 : Int).toNat) := CMul.ok (.inl ⟨by decide, by decide⟩)
      refine r_set (i := 2) (d := .int (2 * (((cell.natAbs : Nat) : Int) - (10 : Int) ^ (18 : Int).toNat) + (if decide (cell < 0) = true then 1 else 0))) rfl (by walk_at "loc") (b_add (b_mul (by walk_at "bb") (b_sub (by walk_at "bb") (by walk_at "bb")) m2) (b_intB B0 (fun _ => rfl) rfl (b_cmp (.lt cell 0) (by walk_at "bb") (by walk_at "bb") rfl))) (by walk_at "sw") ?_
      generalize 2 * (((cell.natAbs : Nat) : Int) - (10 : Int) ^ (18 : Int).toNat) + (if decide (cell < 0) = true then 1 else 0) = lf
      show R _ [.adr c, .dat (.int many), .dat (.int lf), .dat (.int turn), .dat (.int cell), .any] [(c, [il cells, .int ((turn : Int) + 1), .int left])] _ _ _
      refine r_setO (i := 0) (n := 2) (j := 2) (d := .int (lf / many)) rfl rfl (vis_of (by kernel_rfl)) (by walk_at "bb") (by walk_at "bb") rfl (fun _ _ => rfl) (by walk_at "sw") (by walk_at "sw") (fun _ => rfl) ?_
      exact r_ret (d := .int (lf % many)) (by walk_at "bb") ⟨_, rfl, hc2 _, hend lf⟩
    have q1 : 0 ≤ cell % 2147483549 := Int.emod_nonneg _ (by decide)
    have q2 : cell % 2147483549 < 2147483549 := Int.emod_lt_of_pos _ (by decide)
    have m3 : IntMulOk 71843 (turn : Int) := CMul.ok (.inl ⟨by decide, by decide⟩)
    have p5 : CPow (cell % 2147483549 + 71843 * (turn : Int) + 8429) 5 := ⟨by decide, by decide, by omega⟩
    refine r_set (i := 5) (d := .int ((cell % 2147483549 + 71843 * (turn : Int) + 8429) ^ (5 : Int).toNat % 2147483587)) rfl (by walk_at "loc") (by walk_at "bb") (by walk_at "sw") ?_
    have q3 : 0 ≤ (cell % 2147483549 + 71843 * (turn : Int) + 8429) ^ (5 : Int).toNat % 2147483587 := Int.emod_nonneg _ (by decide)
    have q4 : (cell % 2147483549 + 71843 * (turn : Int) + 8429) ^ (5 : Int).toNat % 2147483587 < 2147483587 := Int.emod_lt_of_pos _ (by decide)
    generalize (cell % 2147483549 + 71843 * (turn : Int) + 8429) ^ (5 : Int).toNat % 2147483587 = mx at q3 q4 ⊢
    show R _ [.adr c, .dat (.int many), .any, .dat (.int turn), .dat (.int cell), .dat (.int mx)] [(c, [il cells, .int ((turn : Int) + 1), .int left])] _ _ _
    have m4 : IntMulOk 2 (turn : Int) := CMul.ok (.inl ⟨by decide, by decide⟩)
    have m5 : IntMulOk mx (2 * (turn : Int) + 8699) := CMul.ok (.inl ⟨by omega, by omega⟩)
    have m6 : IntMulOk (904867 * (turn : Int)) (turn : Int) := CMul.ok (.inr ⟨by omega, by omega⟩)
    have p3 : CPow (mx * (2 * (turn : Int) + 8699) + 904867 * (turn : Int) * (turn : Int) + 71843) 3 := by
      refine ⟨by decide, by decide, ?_⟩
      have b1 : mx * (2 * (turn : Int) + 8699) ≤ 2147483587 * 300000 := Int.mul_le_mul (by omega) (by omega) (by omega) (by decide)
      have b2 : 0 ≤ mx * (2 * (turn : Int) + 8699) := Int.mul_nonneg q3 (by omega)
      have b3 : 904867 * (turn : Int) * (turn : Int) ≤ (904867 * 100000) * 100000 := Int.mul_le_mul (by omega) (by omega) (by omega) (by decide)
      have b4 : 0 ≤ 904867 * (turn : Int) * (turn : Int) := Int.mul_nonneg (by omega) (by omega)
      omega
    refine r_set (i := 5) (d := .int ((mx * (2 * (turn : Int) + 8699) + 904867 * (turn : Int) * (turn : Int) + 71843) ^ (3 : Int).toNat % 2147483563)) rfl (by walk_at "loc") (by walk_at "bb") (by walk_at "sw") ?_
    generalize (mx * (2 * (turn : Int) + 8699) + 904867 * (turn : Int) * (turn : Int) + 71843) ^ (3 : Int).toNat % 2147483563 = my
    show R _ [.adr c, .dat (.int many), .any, .dat (.int turn), .dat (.int cell), .dat (.int my)] [(c, [il cells, .int ((turn : Int) + 1), .int left])] _ _ _
    have h64 : (0 : Int) < 64 := by decide
    exact r_ret (d := .int (my / 64 % many)) (by walk_at "bb") ⟨_, rfl, hc2 _, hend _⟩
  refine r_if (t := !decide (cells = [])) ?_ (fun h => ?_) fun _ => r_nil (key _)
  · rw [← eqv_il_nil]
    exact bt_cmp (.neD _ _ (shaped_il cells) (shaped_il [])) (rd rfl) (bl_lst ba_nil (Nat.zero_le _)).toB rfl
  · have hne : cells ≠ [] := by
      intro z
      rw [decide_eq_true z] at h
      cases h
    have hpos : (0 : Int) < (cells.length : Nat) := by have := List.length_pos_iff.mpr hne; omega
    have q1 : 0 ≤ (turn : Int) % (cells.length : Nat) := Int.emod_nonneg _ (by omega)
    have q2 : (turn : Int) % (cells.length : Nat) < (cells.length : Nat) := Int.emod_lt_of_pos _ hpos
    have hix : ((turn : Int) % (cells.length : Nat)).toNat < cells.length := by omega
    refine r_set (i := 4) (d := .int (cells[((turn : Int) % (cells.length : Nat)).toNat])) rfl (by walk_at "loc") (b_ixL (ds := cells.map .int) (n := (turn : Int) % (cells.length : Nat)) (rd rfl) (b_mod (by walk_at "bb") (B.cast (b_lenL B0 (fun _ => rfl) rfl (rd rfl)) (by rw [List.length_map])) hpos) (atI_nat (k := ((turn : Int) % (cells.length : Nat)).toNat) (by omega) (by rw [List.getElem?_map, List.getElem?_eq_getElem hix]; rfl)) (fun _ _ => rfl)) (by walk_at "sw") ?_
    exact r_nil (key _)
end
end Mf
end

-- text L2w
section
set_option Elab.async false
set_option linter.all false
set_option autoImplicit false
set_option maxRecDepth 100000
set_option maxHeartbeats 200000
namespace Mf
open PySem PySem.Spec PyProof.Rows L2 Evl
local macro_rules | `(tactic| walk_at "ix") => `(tactic| first | (with_reducible exact .here) | (with_reducible apply Ix.there; walk_at "ix"))
local macro_rules | `(tactic| walk_at "loc") => `(tactic| (refine loc_of ?_; kernel_rfl))
local macro_rules | `(tactic| walk_at "hk") => `(tactic| exact Nat.le_of_ble_eq_true rfl)
local macro_rules | `(tactic| walk_at "rel") => `(tactic| first | exact ⟨_, rfl, rfl⟩ | exact ⟨_, _, rfl, rfl⟩ | exact ⟨_, _, _, rfl, rfl⟩ | exact ⟨_, rfl, by assumption, rfl⟩ | exact ⟨_, _, rfl, by assumption, rfl⟩ | exact ⟨_, _, rfl, by assumption, by assumption, rfl⟩)
local macro_rules | `(tactic| walk_at "sw") => `(tactic| (intro env h; first | rfl | (cases env; cases h; rfl)))
/-- an expression, its side questions -/
local macro_rules | `(tactic| walk_at "bb") => `(tactic| first
  | ((with_reducible apply b_vi) <;> first | ((with_reducible show Ix _ _ _); walk_at "ix") | ((with_reducible show visB _ _ = true); kernel_rfl) | ((with_reducible show okN _ = true); kernel_rfl) | rfl)
  | ((with_reducible apply b_int) <;> walk_at "bb")
  | ((with_reducible apply b_bool) <;> walk_at "bb")
  | ((with_reducible apply b_non) <;> walk_at "bb")
  | ((with_reducible apply b_str) <;> walk_at "bb")
  | ((with_reducible apply b_add) <;> walk_at "bb")
  | ((with_reducible apply b_sub) <;> walk_at "bb")
  | ((with_reducible apply b_mul) <;> walk_at "bb")
  | ((with_reducible apply b_mod) <;> walk_at "bb")
  | ((with_reducible apply b_fdiv) <;> walk_at "bb")
  | ((with_reducible apply b_neg) <;> walk_at "bb")
  | ((with_reducible apply b_pow) <;> walk_at "bb")
  | ((with_reducible apply b_tup) <;> walk_at "bb")
  | ((with_reducible apply b_ixT) <;> walk_at "bb")
  | ((with_reducible apply b_ixL) <;> walk_at "bb")
  | ((with_reducible apply b_abs) <;> walk_at "bb")
  | ((with_reducible apply b_lenT) <;> walk_at "bb")
  | ((with_reducible apply b_lenL) <;> walk_at "bb")
  | ((with_reducible apply b_max2) <;> walk_at "bb")
  | ((with_reducible apply b_intI) <;> walk_at "bb")
  | ((with_reducible apply b_intB) <;> walk_at "bb")
  | ((with_reducible apply b_tupleL) <;> walk_at "bb")
  | ((with_reducible apply b_all) <;> walk_at "bb")
  | ((with_reducible apply b_sum) <;> walk_at "bb")
  | ((with_reducible apply b_if) <;> walk_at "bb")
  | ((with_reducible apply b_and) <;> walk_at "bb")
  | ((with_reducible apply b_or) <;> walk_at "bb")
  | ((with_reducible apply b_not) <;> walk_at "bb")
  | ((with_reducible apply b_one) <;> walk_at "bb")
  | ((with_reducible apply b_cmp) <;> walk_at "bb")
  | ((with_reducible apply ba_nil) <;> walk_at "bb")
  | ((with_reducible apply ba_cons) <;> walk_at "bb")
  | ((with_reducible apply b_callI) <;> walk_at "bb")
  | ((with_reducible apply bt_cmp) <;> walk_at "bb")
  | ((with_reducible apply bt_not) <;> walk_at "bb")
  | ((with_reducible show IsG _ _); kernel_rfl)
  | ((with_reducible show okN _ = true); kernel_rfl)
  | (with_reducible assumption)
  | (with_reducible exact CmpD.gt _ _)
  | (with_reducible exact CmpD.lt _ _)
  | (with_reducible exact CmpD.ge _ _)
  | (with_reducible exact CmpD.le _ _)
  | (with_reducible exact CmpD.eqI _ _)
  | (with_reducible exact CmpD.neI _ _)
  | ((with_reducible show _ = _); rfl)
  | ((with_reducible show (_ : Nat) ≤ _); first | walk_at "hk" | decide)
  | ((with_reducible show (0 : Int) < _); omega)
  | (intro _; rfl)
  | (intro _ _; rfl)
  | walk_at "rel")
section
variable {P : Program} {w : World} {K : PySem.W.Frag} {mg : Str → Option Value} {base : Heap}
/-! ### pick -/
def prePick (cs ds : List PyData) : Prop := ∃ N items, N ≤ 99999 ∧ Cn N cs ∧ ds = [.list items] ∧ items ≠ [] ∧ items.length ≤ 1000
def postPick (cs ds cs' : List PyData) (d : PyData) : Prop := (∀ N, Cn N cs → Cn (N + 1) cs') ∧ ∀ items, ds = [.list items] → d ∈ items
abbrev DPick (P : Program) (w : World) (K : PySem.W.Frag) (mg : Str → Option Value) (base : Heap) := Def P w K mg base "_law_pick" ["_law_counter_here", "_law_some"] 34 (spE K 2 prePick postPick)
theorem ok_l_pick {f : Addr} {fd : FuncData} (F : Fun K "_law_pick" "_law_pick" sLPick f fd) (hg : mg "_law_pick" = some (.ref f)) (hb : Binds K fd ["_law_counter_here", "_law_some"] []) (ba : Bas P mg base) (D1 : DTally P w K mg base) : DPick P w K mg base := by
  refine fn_E F scLPick hg hb ba (by decide) rfl fun c cs ds hR _ => ?_
  obtain ⟨N, items, hN, hc, rfl, hne, hl⟩ := hR
  have B0 := ba.b0
  have hpos := List.length_pos_iff.mpr hne
  show R _ [.adr c, .dat (.list items)] [(c, cs)] _ _ _
  refine r_retE (be_ixL (ds := items) (by walk_at "bb") (be_call D1 (by walk_at "hk") (by kernel_rfl) (i := 0) (ds := [.int (items.length : Nat)]) rfl rfl (vis_of (by kernel_rfl)) (by walk_at "bb") rfl ⟨N, _, by omega, hc, rfl, by omega⟩ (fun cs' d hp => ?_) (fun _ => rfl) (fun _ => rfl) (by kernel_rfl) (by kernel_rfl)) (fun _ _ => rfl))
  obtain ⟨h1, h2⟩ := hp
  obtain ⟨k, rfl, hk0, hk1⟩ := h2 _ rfl
  have hk : k.toNat < items.length := by omega
  refine ⟨k, items[k.toNat], rfl, atI_nat (k := k.toNat) (by omega) (List.getElem?_eq_getElem hk), cs', rfl, h1, fun it e => ?_⟩
  injection e with e
  injection e with e
  subst e
  exact List.getElem_mem hk
/-! ### fractions of the law -/
def rLLow (ds : List PyData) (d : PyData) : Prop := ∃ a b : Int, ds = [.int a, .int b] ∧ 0 < b ∧ d = fr (Rat.divInt a b)
abbrev DLLow (P : Program) (w : World) (K : PySem.W.Frag) (mg : Str → Option Value) (base : Heap) := Def P w K mg base "_law_low" ["_law_up", "_law_down"] 33 (spR K 2 rLLow)
theorem ok_l_low {f : Addr} {fd : FuncData} (F : Fun K "_law_low" "_law_low" sLLow f fd) (hg : mg "_law_low" = some (.ref f)) (hb : Binds K fd ["_law_up", "_law_down"] []) (ba : Bas P mg base) : DLLow P w K mg base := by
  refine fn_R F scLLow hg hb ba (by decide) rfl fun ds d hR _ => ?_
  obtain ⟨a, b, rfl, hb0, rfl⟩ := hR
  have B0 := ba.b0
  show R _ [.dat (.int a), .dat (.int b), .any, .any, .any] [] _ _ _
  refine r_par (i := 2) (j := 3) rfl rfl (by decide) rfl rfl (by walk_at "bb") (by walk_at "sw") (by walk_at "sw") ?_
  show R _ [.dat (.int a), .dat (.int b), .dat (.int a.natAbs), .dat (.int b.natAbs), .any] [] _ _ _
  refine r_while (fun m ss ow => ∃ x y : Nat, m = y ∧ ss = [.dat (.int a), .dat (.int b), .dat (.int x), .dat (.int y), .any] ∧ ow = [] ∧ Nat.gcd x y = Int.gcd a b) b.natAbs ⟨a.natAbs, b.natAbs, rfl, rfl, rfl, rfl⟩ fun m ss ow hI => ?_
  obtain ⟨x, y, e, rfl, rfl, hxy⟩ := hI
  refine ⟨_, bt_cmp (.gt _ _) (by walk_at "bb") (by walk_at "bb") rfl, fun h => ?_, fun h => ?_⟩
  · have h : (0 : Int) < y := of_decide_eq_true h
    refine r_par (i := 2) (j := 3) rfl rfl (by decide) rfl rfl (by walk_at "bb") (by walk_at "sw") (by walk_at "sw") ?_
    refine r_nil ⟨x % y, by rw [e]; exact Nat.mod_lt _ (by omega), y, x % y, rfl, rfl, rfl, ?_⟩
    rw [← hxy, Nat.gcd_comm y, ← Nat.gcd_rec, Nat.gcd_comm]
  · have h : ¬ (0 : Int) < y := of_decide_eq_false h
    have hy : y = 0 := by omega
    subst hy
    rw [Nat.gcd_zero_right] at hxy
    subst hxy
    have hgp : (0 : Int) < (Int.gcd a b : Nat) := by
      have := Int.gcd_pos_of_ne_zero_right a (show b ≠ 0 by omega)
      omega
    refine r_set (i := 4) (d := .int (Int.gcd a b : Nat)) rfl (by walk_at "loc") (b_if (bt_cmp (.gt b 0) (by walk_at "bb") (by walk_at "bb") rfl) (fun _ => by walk_at "bb") fun h => absurd hb0 (of_decide_eq_false h)) (by walk_at "sw") ?_
    show R _ [.dat (.int a), .dat (.int b), .dat (.int (Int.gcd a b : Nat)), .dat (.int (0 : Nat)), .dat (.int (Int.gcd a b : Nat))] [] _ _ _
    refine r_ret (d := .tuple [.int (a / (Int.gcd a b : Nat)), .int (b / (Int.gcd a b : Nat))]) (by walk_at "bb") ?_
    rw [← (divInt_parts a b hb0).1, ← (divInt_parts a b hb0).2]
abbrev DLPlus (P : Program) (w : World) (K : PySem.W.Frag) (mg : Str → Option Value) (base : Heap) := Def P w K mg base "_law_plus" ["_law_one", "_law_other"] 34 (spR K 2 rPlus)
theorem ok_l_plus {f : Addr} {fd : FuncData} (F : Fun K "_law_plus" "_law_plus" sLPlus f fd) (hg : mg "_law_plus" = some (.ref f)) (hb : Binds K fd ["_law_one", "_law_other"] []) (ba : Bas P mg base) (D1 : DLLow P w K mg base) : DLPlus P w K mg base := by
  refine fn_R F scLPlus hg hb ba (by decide) rfl fun ds d hR _ => ?_
  obtain ⟨q, r, rfl, hq, hr, rfl⟩ := hR
  have B0 := ba.b0
  have m1 := SI.mul hq.1 hr.2
  have m2 := SI.mul hr.1 hq.2
  have m3 := SI.mul hq.2 hr.2
  have m4 := den_mul_pos q r
  show R _ [.dat (fr q), .dat (fr r)] [] _ _ _
  refine r_ret (d := fr (Rat.divInt (q.num * r.den + r.num * q.den) (q.den * r.den))) (by walk_at "bb") ?_
  rw [add_divInt]
abbrev DLTimes (P : Program) (w : World) (K : PySem.W.Frag) (mg : Str → Option Value) (base : Heap) := Def P w K mg base "_law_times" ["_law_one", "_law_other"] 34 (spR K 2 rTimes)
theorem ok_l_times {f : Addr} {fd : FuncData} (F : Fun K "_law_times" "_law_times" sLTimes f fd) (hg : mg "_law_times" = some (.ref f)) (hb : Binds K fd ["_law_one", "_law_other"] []) (ba : Bas P mg base) (D1 : DLLow P w K mg base) : DLTimes P w K mg base := by
  refine fn_R F scLTimes hg hb ba (by decide) rfl fun ds d hR _ => ?_
  obtain ⟨q, r, rfl, hq, hr, rfl⟩ := hR
  have B0 := ba.b0
  have m1 := SI.mul hq.1 hr.1
  have m3 := SI.mul hq.2 hr.2
  have m4 := den_mul_pos q r
  show R _ [.dat (fr q), .dat (fr r)] [] _ _ _
  refine r_ret (d := fr (Rat.divInt (q.num * r.num) (q.den * r.den))) (by walk_at "bb") ?_
  rw [mul_divInt]
/-! ### as -/
def preAs (cs ds : List PyData) : Prop := ∃ N q, N ≤ 99998 ∧ Cn N cs ∧ ds = [fr q]
def postAs (cs ds cs' : List PyData) (d : PyData) : Prop := (∀ N, Cn N cs → Cn (N + 2) cs') ∧ ∀ q, ds = [fr q] → RepF d q
abbrev DAs (P : Program) (w : World) (K : PySem.W.Frag) (mg : Str → Option Value) (base : Heap) := Def P w K mg base "_law_as" ["_law_counter_here", "_law_number"] 35 (spE K 2 preAs postAs)
theorem fr_inj {q r : Rat} (h : fr q = fr r) : q = r := by
  injection h with h
  injection h with h1 h
  injection h1 with h1
  injection h with h2 h
  injection h2 with h2
  exact Rat.ext h1 (by omega)
theorem ok_l_as {f : Addr} {fd : FuncData} (F : Fun K "_law_as" "_law_as" sLAs f fd) (hg : mg "_law_as" = some (.ref f)) (hb : Binds K fd ["_law_counter_here", "_law_number"] []) (ba : Bas P mg base) (D1 : DTally P w K mg base) (D2 : DPick P w K mg base) : DAs P w K mg base := by
  refine fn_E F scLAs hg hb ba (by decide) rfl fun c cs ds hR _ => ?_
  obtain ⟨N, q, hN, hc, rfl⟩ := hR
  have B0 := ba.b0
  show R _ [.adr c, .dat (fr q), .any] [(c, cs)] _ _ _
  refine r_setE (i := 2) rfl (by walk_at "loc") (be_add (be_pure (d := .int 1) (by walk_at "bb") ⟨1, rfl, be_call D1 (by walk_at "hk") (by kernel_rfl) (i := 0) (ds := [.int 4]) rfl rfl (vis_of (by kernel_rfl)) (by walk_at "bb") rfl ⟨N, 4, by omega, hc, rfl, by decide⟩ (fun cs' d hp => ?_) (fun _ => rfl) (fun _ => rfl) (by kernel_rfl) (by kernel_rfl)⟩)) (by walk_at "sw")
  obtain ⟨h1, h2⟩ := hp
  obtain ⟨k, rfl, hk0, hk1⟩ := h2 _ rfl
  refine ⟨k, rfl, ?_⟩
  show R _ [.adr c, .dat (fr q), .dat (.int (1 + k))] [(c, cs')] _ _ _
  have hc1 := h1 N hc
  have m1 : IntMulOk q.num (1 + k) := CMul.ok (.inr ⟨by omega, by omega⟩)
  have m2 : IntMulOk (q.den : Int) (1 + k) := CMul.ok (.inr ⟨by omega, by omega⟩)
  have hqd : (0 : Int) < (q.den : Int) := by have := q.den_pos; omega
  have hlen : (List.replicate (if decide ((q.den : Int) = 1) = true then (1 : Int) else 0).toNat [PyData.int q.num]).flatten.length ≤ 1 := by
    split <;> simp
  refine r_retE (be_call D2 (by walk_at "hk") (by kernel_rfl) (i := 0) (ds := [.list ([fr q, .list [.int (q.num * (1 + k)), .int (q.den * (1 + k))], .tuple [.int (q.num * (1 + k)), .int (q.den * (1 + k))]] ++ (List.replicate (if decide ((q.den : Int) = 1) = true then (1 : Int) else 0).toNat [PyData.int q.num]).flatten)]) rfl rfl (vis_of (by kernel_rfl)) (ba_cons (bl_cat (bl_lst (ba_cons (by walk_at "bb") (ba_cons (bl_lst (by walk_at "bb") (Nat.le_of_ble_eq_true rfl)).toB (by walk_at "bb") (fun _ => rfl)) (fun _ => rfl)) (Nat.le_of_ble_eq_true rfl)).toB (bl_rep (bl_lst (by walk_at "bb") (Nat.le_of_ble_eq_true rfl)) (b_intB B0 (fun _ => rfl) rfl (b_cmp (.eqI (q.den : Int) 1) (by walk_at "bb") (by walk_at "bb") rfl)) (by split <;> decide) (Nat.le_of_ble_eq_true rfl)).toB ?_).toB ba_nil (fun _ => rfl)) rfl ⟨N + 1, _, by omega, hc1, rfl, by simp, ?_⟩ (fun cs2 d hp => ?_) (fun _ => rfl) (fun _ => rfl) (by kernel_rfl) (by kernel_rfl))
  · simp only [List.length_cons, List.length_nil] at hlen ⊢
    omega
  · rw [List.length_append]
    simp only [List.length_cons, List.length_nil] at hlen ⊢
    omega
  · obtain ⟨p1, p2⟩ := hp
    refine ⟨cs2, rfl, fun M hM => (p1 (M + 1) (h1 M hM)), fun q' e => ?_⟩
    injection e with e
    obtain rfl := fr_inj e
    have hrep : Rat.divInt (q.num * (1 + k)) (q.den * (1 + k)) = q := by
      rw [Rat.divInt_mul_right (by omega), Rat.num_divInt_den]
    have hp : 0 < (q.den : Int) * (1 + k) := Int.mul_pos hqd (by omega)
    have hd := p2 _ rfl
    rcases List.mem_append.mp hd with hd | hd
    · simp only [List.mem_cons, List.not_mem_nil, or_false] at hd
      rcases hd with rfl | rfl | rfl
      · exact RepF.fr q
      · have := RepF.lst (q.num * (1 + k)) (q.den * (1 + k)) hp
        rwa [hrep] at this
      · have := RepF.tup (q.num * (1 + k)) (q.den * (1 + k)) hp
        rwa [hrep] at this
    · by_cases h1 : (q.den : Int) = 1
      · rw [decide_eq_true h1] at hd
        simp at hd
        subst hd
        have := RepF.int q.num
        have e : ((q.num : Int) : Rat) = q := by
          refine Rat.ext (Rat.num_intCast _) ?_
          rw [Rat.den_intCast]
          omega
        rwa [e] at this
      · rw [decide_eq_false h1] at hd
        simp at hd
/-! ### trimmed -/
abbrev DLTrimmed (P : Program) (w : World) (K : PySem.W.Frag) (mg : Str → Option Value) (base : Heap) := Def P w K mg base "_law_trimmed" ["_law_row"] 33 (spR K 1 rTrimmed)
theorem ok_l_trimmed {f : Addr} {fd : FuncData} (F : Fun K "_law_trimmed" "_law_trimmed" sLTrimmed f fd) (hg : mg "_law_trimmed" = some (.ref f)) (hb : Binds K fd ["_law_row"] []) (ba : Bas P mg base) : DLTrimmed P w K mg base := by
  refine fn_R F scLTrimmed hg hb ba (by decide) rfl fun ds d hR _ => ?_
  obtain ⟨l, rfl, hl, rfl⟩ := hR
  have B0 := ba.b0
  show R _ [.dat (.list (l.map fr)), .any] [] _ _ _
  refine r_set (i := 1) rfl (by walk_at "loc") (d := .int (l.length : Nat)) (B.cast (b_lenL B0 (fun _ => rfl) rfl (by walk_at "bb")) (by rw [List.length_map])) (by walk_at "sw") ?_
  show R _ [.dat (.list (l.map fr)), .dat (.int (l.length : Nat))] [] _ _ _
  refine r_while (fun m ss ow => ss = [.dat (.list (l.map fr)), .dat (.int (m : Nat))] ∧ ow = [] ∧ m ≤ l.length ∧ ∀ j x, m ≤ j → l[j]? = some x → x = 0) l.length ⟨rfl, rfl, Nat.le_refl _, fun j x h1 h2 => by rw [List.getElem?_eq_none_iff.mpr h1] at h2; cases h2⟩ fun m ss ow hI => ?_
  obtain ⟨rfl, rfl, hm, hz⟩ := hI
  have hq : ∃ u : Bool, (0 < m → ∃ x, l[m - 1]? = some x ∧ u = decide (x.num = 0)) := by
    by_cases h : 0 < m
    · exact ⟨_, fun _ => ⟨l[m-1]'(by omega), List.getElem?_eq_getElem _, rfl⟩⟩
    · exact ⟨true, fun z => absurd z h⟩
  obtain ⟨u, hu⟩ := hq
  refine ⟨decide ((0 : Int) < m) && u, bt_w (bw_and (bt_cmp (.gt _ _) (by walk_at "bb") (by walk_at "bb") rfl) fun h => ?_), fun h => ?_, fun h => ?_⟩
  · have h : (0 : Int) < m := of_decide_eq_true h
    obtain ⟨x, hx, rfl⟩ := hu (by omega)
    refine bw_and1 (bt_cmp (.eqI _ _) (b_ixT (ds := [.int x.num, .int x.den]) (n := 0) (b_ixL (n := (m : Int) - 1) (by walk_at "bb") (by walk_at "bb") (atI_nat (k := m - 1) (by omega) (by rw [List.getElem?_map, hx]; rfl)) (fun _ _ => rfl)) (by walk_at "bb") rfl (fun _ _ => rfl)) (by walk_at "bb") rfl)
  · rw [Bool.and_eq_true] at h
    have h1 : (0 : Int) < m := of_decide_eq_true h.1
    obtain ⟨x, hx, rfl⟩ := hu (by omega)
    have h2 : x = 0 := Rat.num_eq_zero.mp (of_decide_eq_true h.2)
    refine r_set (i := 1) rfl (by walk_at "loc") (d := .int ((m : Int) - 1)) (by walk_at "bb") (by walk_at "sw") (r_nil ⟨m - 1, by omega, ?_, rfl, by omega, fun j y hj hy => ?_⟩)
    · show [SS.dat (.list (l.map fr)), SS.dat (.int ((m : Int) - 1))] = [SS.dat (.list (l.map fr)), SS.dat (.int ((m - 1 : Nat) : Int))]
      have : ((m : Int) - 1) = ((m - 1 : Nat) : Int) := by omega
      rw [this]
    · by_cases e : j = m - 1
      · subst e; rw [hx] at hy; cases hy; exact h2
      · exact hz j y (by omega) hy
  · have ht : trim l = l.take m := trim_take l m hm hz fun x hx hm0 hx0 => by
      obtain ⟨y, hy, rfl⟩ := hu hm0
      rw [hx] at hy
      cases hy
      have : (0 : Int) < m := by omega
      rw [decide_eq_true this, decide_eq_true (Rat.num_eq_zero.mpr hx0)] at h
      cases h
    refine r_ret (b_tupleL B0 (fun _ => rfl) rfl (ds := (l.map fr).take m) ?_) (by rw [ht]; exact congrArg PyData.tuple List.map_take.symm)
    exact (B.cast (bl_slice (by walk_at "bb") bo_none (bo_some (n := (m : Int)) (by walk_at "bb"))).toB (by rw [cutD_take]))
end
end Mf
end

-- text L3
section
set_option Elab.async false
set_option linter.all false
set_option autoImplicit false
set_option maxRecDepth 100000
set_option maxHeartbeats 200000
namespace Mf
open PySem PySem.Spec PyProof.Rows L2 Evl
local macro_rules | `(tactic| walk_at "ix") => `(tactic| first | (with_reducible exact .here) | (with_reducible apply Ix.there; walk_at "ix"))
local macro_rules | `(tactic| walk_at "loc") => `(tactic| (refine loc_of ?_; kernel_rfl))
local macro_rules | `(tactic| walk_at "hk") => `(tactic| exact Nat.le_of_ble_eq_true rfl)
local macro_rules | `(tactic| walk_at "rel") => `(tactic| first | exact ⟨_, rfl, rfl⟩ | exact ⟨_, _, rfl, rfl⟩ | exact ⟨_, _, _, rfl, rfl⟩ | exact ⟨_, rfl, by assumption, rfl⟩ | exact ⟨_, _, rfl, by assumption, rfl⟩ | exact ⟨_, _, rfl, by assumption, by assumption, rfl⟩)
local macro_rules | `(tactic| walk_at "sw") => `(tactic| (intro env h; first | rfl | (cases env; cases h; rfl)))
/-- an expression, its side questions -/
local macro_rules | `(tactic| walk_at "bb") => `(tactic| first
  | ((with_reducible apply b_vi) <;> first | ((with_reducible show Ix _ _ _); walk_at "ix") | ((with_reducible show visB _ _ = true); kernel_rfl) | ((with_reducible show okN _ = true); kernel_rfl) | rfl)
  | ((with_reducible apply b_int) <;> walk_at "bb")
  | ((with_reducible apply b_bool) <;> walk_at "bb")
  | ((with_reducible apply b_non) <;> walk_at "bb")
  | ((with_reducible apply b_str) <;> walk_at "bb")
  | ((with_reducible apply b_add) <;> walk_at "bb")
  | ((with_reducible apply b_sub) <;> walk_at "bb")
  | ((with_reducible apply b_mul) <;> walk_at "bb")
  | ((with_reducible apply b_mod) <;> walk_at "bb")
  | ((with_reducible apply b_fdiv) <;> walk_at "bb")
  | ((with_reducible apply b_neg) <;> walk_at "bb")
  | ((with_reducible apply b_pow) <;> walk_at "bb")
  | ((with_reducible apply b_tup) <;> walk_at "bb")
  | ((with_reducible apply b_ixT) <;> walk_at "bb")
  | ((with_reducible apply b_ixL) <;> walk_at "bb")
  | ((with_reducible apply b_abs) <;> walk_at "bb")
  | ((with_reducible apply b_lenT) <;> walk_at "bb")
  | ((with_reducible apply b_lenL) <;> walk_at "bb")
  | ((with_reducible apply b_max2) <;> walk_at "bb")
  | ((with_reducible apply b_intI) <;> walk_at "bb")
  | ((with_reducible apply b_intB) <;> walk_at "bb")
  | ((with_reducible apply b_tupleL) <;> walk_at "bb")
  | ((with_reducible apply b_all) <;> walk_at "bb")
  | ((with_reducible apply b_sum) <;> walk_at "bb")
  | ((with_reducible apply b_if) <;> walk_at "bb")
  | ((with_reducible apply b_and) <;> walk_at "bb")
  | ((with_reducible apply b_or) <;> walk_at "bb")
  | ((with_reducible apply b_not) <;> walk_at "bb")
  | ((with_reducible apply b_one) <;> walk_at "bb")
  | ((with_reducible apply b_cmp) <;> walk_at "bb")
  | ((with_reducible apply ba_nil) <;> walk_at "bb")
  | ((with_reducible apply ba_cons) <;> walk_at "bb")
  | ((with_reducible apply b_callI) <;> walk_at "bb")
  | ((with_reducible apply bt_cmp) <;> walk_at "bb")
  | ((with_reducible apply bt_not) <;> walk_at "bb")
  | ((with_reducible show IsG _ _); kernel_rfl)
  | ((with_reducible show okN _ = true); kernel_rfl)
  | (with_reducible assumption)
  | (with_reducible exact CmpD.gt _ _)
  | (with_reducible exact CmpD.lt _ _)
  | (with_reducible exact CmpD.ge _ _)
  | (with_reducible exact CmpD.le _ _)
  | (with_reducible exact CmpD.eqI _ _)
  | (with_reducible exact CmpD.neI _ _)
  | ((with_reducible show _ = _); rfl)
  | ((with_reducible show (_ : Nat) ≤ _); first | walk_at "hk" | decide)
  | ((with_reducible show (0 : Int) < _); omega)
  | (intro _; rfl)
  | (intro _ _; rfl)
  | walk_at "rel")
section
variable {P : Program} {w : World} {K : PySem.W.Frag} {mg : Str → Option Value} {base : Heap}
/-! ### product -/
structure PdOk (l m : List Rat) : Prop where
  l1 : l.length ≤ 100
  l2 : m.length ≤ 100
  s1 : ∀ c ∈ l, SF c
  s2 : ∀ c ∈ m, SF c
  s3 : ∀ a ∈ l, ∀ b ∈ m, SF (a * b)
  s4 : ∀ (i j : Nat) (x : Rat), l[i]? = some x → j < m.length → SF ((pin (pout (pzero l m) 0 m (l.take i)) i x (m.take j)).getD (i + j) 0)
def rLProduct (ds : List PyData) (d : PyData) : Prop := ∃ l m : List Rat, ds = [pq l, pq m] ∧ PdOk l m ∧ d = pq (lprod l m)
abbrev DLProduct (P : Program) (w : World) (K : PySem.W.Frag) (mg : Str → Option Value) (base : Heap) := Def P w K mg base "_law_product" ["_law_one", "_law_other"] 35 (spR K 2 rLProduct)
theorem enum_fr (l : List Rat) : enumD (l.map fr) = (l.mapIdx fun i c => (i, c)).map fun p => PyData.tuple [.int (p.1 : Nat), fr p.2] := by
  unfold enumD
  exact List.ext_getElem (by simp) (by intros; simp)
theorem ok_l_product {f : Addr} {fd : FuncData} (F : Fun K "_law_product" "_law_product" sLProduct f fd) (hg : mg "_law_product" = some (.ref f)) (hb : Binds K fd ["_law_one", "_law_other"] []) (ba : Bas P mg base) (D1 : DLPlus P w K mg base) (D2 : DLTimes P w K mg base) (D3 : DLTrimmed P w K mg base) : DLProduct P w K mg base := by
  refine fn_R F scLProduct hg hb ba (by decide) rfl fun ds d hR _ => ?_
  obtain ⟨l, m, rfl, hp, rfl⟩ := hR
  have B0 := ba.b0
  have hl1 := hp.l1
  have hl2 := hp.l2
  show R _ [.dat (pq l), .dat (pq m), .any, .any, .any, .any, .any] [] _ _ _
  refine r_setL (i := 2) (ds := (pzero l m).map fr) rfl (by walk_at "loc") ?_ (by walk_at "sw") fun a => ?_
  · have e : (pzero l m).map fr = (List.replicate (max (0 : Int) ((l.length : Int) + (m.length : Int) - 1)).toNat [.tuple [.int 0, .int 1]]).flatten := by
      have h1 : (max (0 : Int) ((l.length : Int) + (m.length : Int) - 1)).toNat = l.length + m.length - 1 := by omega
      rw [h1]
      unfold pzero
      rw [List.map_replicate]
      generalize l.length + m.length - 1 = n
      induction n with
      | zero => rfl
      | succ n ih => rw [List.replicate_succ, List.replicate_succ, List.flatten_cons, ← ih]; rfl
    rw [e]
    exact bl_rep (bl_lst (by walk_at "bb") (Nat.le_of_ble_eq_true rfl)) (b_max2 B0 (fun _ => rfl) (fun _ => rfl) rfl (by walk_at "bb") (b_sub (b_add (B.cast (b_lenT B0 (fun _ => rfl) rfl (by walk_at "bb")) (by rw [List.length_map])) (B.cast (b_lenT B0 (fun _ => rfl) rfl (by walk_at "bb")) (by rw [List.length_map]))) (by walk_at "bb"))) (by omega) (Nat.le_of_ble_eq_true rfl)
  show R _ [.dat (pq l), .dat (pq m), .adr a, .any, .any, .any, .any] [(a, (pzero l m).map fr)] _ _ _
  refine r_for (as := l.mapIdx fun i c => (i, c)) (g := fun p => PyData.tuple [.int (p.1 : Nat), fr p.2]) (BI.cast (bi_enumT B0 rfl (fun _ => rfl) (by walk_at "bb")) (enum_fr l)) (fun i ss ow => ow = [(a, (pout (pzero l m) 0 m (l.take i)).map fr)] ∧ ∃ s3 s4 s5 s6, ss = [.dat (pq l), .dat (pq m), .adr a, s3, s4, s5, s6]) ⟨rfl, _, _, _, _, rfl⟩ (fun i ss ow h => by rw [h.1]; rfl) (fun i c ss ow hc hI => ?_) (fun ss ow hI => ?_) (fun _ _ => rfl)
  · obtain ⟨rfl, s3, s4, s5, s6, rfl⟩ := hI
    rw [List.getElem?_mapIdx, Option.map_eq_some_iff] at hc
    obtain ⟨x, hx, rfl⟩ := hc
    have hil : i < l.length := (List.getElem?_eq_some_iff.mp hx).1
    refine ⟨_, _, bg_pair (i := 3) (j := 4) rfl (by walk_at "loc") rfl (by walk_at "loc"), ?_⟩
    show R _ [.dat (pq l), .dat (pq m), .adr a, .dat (.int (i : Nat)), .dat (fr x), s5, s6] _ _ _ _
    refine r_for (as := m.mapIdx fun i c => (i, c)) (g := fun p => PyData.tuple [.int (p.1 : Nat), fr p.2]) (BI.cast (bi_enumT B0 rfl (fun _ => rfl) (by walk_at "bb")) (enum_fr m)) (fun j ss ow => ow = [(a, (pin (pout (pzero l m) 0 m (l.take i)) i x (m.take j)).map fr)] ∧ ∃ s5 s6, ss = [.dat (pq l), .dat (pq m), .adr a, .dat (.int (i : Nat)), .dat (fr x), s5, s6]) ⟨rfl, _, _, rfl⟩ (fun j ss ow h => by rw [h.1]; rfl) (fun j c ss ow hc hI => ?_) (fun ss ow hI => ?_) (fun _ _ => rfl)
    · obtain ⟨rfl, s5, s6, rfl⟩ := hI
      rw [List.getElem?_mapIdx, Option.map_eq_some_iff] at hc
      obtain ⟨y, hy, rfl⟩ := hc
      have hjm : j < m.length := (List.getElem?_eq_some_iff.mp hy).1
      have hsf := hp.s4 i j x hx hjm
      generalize hF : pin (pout (pzero l m) 0 m (l.take i)) i x (m.take j) = Fl at hsf ⊢
      have hFl : Fl.length = l.length + m.length - 1 := by
        rw [← hF, pin_len, pout_len]
        unfold pzero
        rw [List.length_replicate]
      have hij : i + j < Fl.length := by omega
      have hat : Fl[i + j]? = some (Fl.getD (i + j) 0) := by
        rw [List.getD_eq_getElem?_getD, List.getElem?_eq_getElem hij]
        rfl
      have hxm : x ∈ l := List.mem_of_getElem? hx
      have hym : y ∈ m := List.mem_of_getElem? hy
      refine ⟨_, _, bg_pair (i := 5) (j := 6) rfl (by walk_at "loc") rfl (by walk_at "loc"), ?_⟩
      show R _ [.dat (pq l), .dat (pq m), .adr a, .dat (.int (i : Nat)), .dat (fr x), .dat (.int (j : Nat)), .dat (fr y)] [(a, Fl.map fr)] _ _ _
      refine r_setO (i := 2) (n := (i : Int) + (j : Int)) (j := i + j) (d := fr (Fl.getD (i + j) 0 + x * y)) rfl rfl (vis_of (by kernel_rfl)) (b_callI D1 (by walk_at "hk") (by kernel_rfl) (ds := [fr (Fl.getD (i + j) 0), fr (x * y)]) (ba_cons (b_ixO (i := 2) (n := (i : Int) + (j : Int)) rfl List.mem_cons_self rfl (vis_of (by kernel_rfl)) (by walk_at "bb") (atI_nat (k := i + j) (by omega) (by rw [List.getElem?_map, hat]; rfl)) (fun _ _ => rfl)) (ba_cons (b_callI D2 (by walk_at "hk") (by kernel_rfl) (ds := [fr x, fr y]) (by walk_at "bb") ⟨_, _, rfl, hp.s1 _ hxm, hp.s2 _ hym, rfl⟩ rfl (fun _ => rfl) (fun _ => rfl) (by kernel_rfl)) ba_nil (fun _ => rfl)) (fun _ => rfl)) ⟨_, _, rfl, hsf, hp.s3 _ hxm _ hym, rfl⟩ rfl (fun _ => rfl) (fun _ => rfl) (by kernel_rfl)) (by walk_at "bb") ?_ (fun _ _ => rfl) (by walk_at "sw") (by walk_at "sw") (fun _ => rfl) (r_nil ⟨?_, .dat (.int (j : Nat)), .dat (fr y), rfl⟩)
      · rw [show (i : Int) + (j : Int) = ((i + j : Nat) : Int) by omega]
        exact ixN_nat (by rw [List.length_map]; exact hij)
      · rw [← List.map_set, pin_step x m _ i j y hy, hF]
        rfl
    · obtain ⟨rfl, s5, s6, rfl⟩ := hI
      refine r_nil ⟨?_, .dat (.int (i : Nat)), .dat (fr x), s5, s6, rfl⟩
      rw [List.length_mapIdx, List.take_length, pout_step m l _ 0 i x hx, Nat.zero_add]
  · obtain ⟨rfl, s3, s4, s5, s6, rfl⟩ := hI
    rw [List.length_mapIdx, List.take_length]
    refine r_free (i := 2) rfl (r_ret (d := pq (lprod l m)) (b_callI D3 (by walk_at "hk") (by kernel_rfl) (ds := [.list ((pout (pzero l m) 0 m l).map fr)]) (by walk_at "bb") ⟨_, rfl, ?_, rfl⟩ rfl (fun _ => rfl) (fun _ => rfl) (by kernel_rfl)) rfl)
    rw [pout_len]
    unfold pzero
    rw [List.length_replicate]
    omega
/-! ### is_above, many -/
@[reducible] def zd : Zr → PyData
  | .rat q => .tuple [fr q, .int 0]
  | .root s k => .tuple [.int s, .int k]
def Sm (q : Rat) : Prop := q.num.natAbs < 2 ^ 40 ∧ q.den < 2 ^ 40
theorem Sm.sf {q : Rat} (h : Sm q) : SF q := ⟨⟨40, Nat.le_of_ble_eq_true rfl, h.1⟩, ⟨40, Nat.le_of_ble_eq_true rfl, by have := h.2; omega⟩⟩
def zok : Zr → Prop
  | .rat q => Sm q
  | .root s k => 0 < k ∧ k < 2 ^ 40
def rLIsAbove (ds : List PyData) (d : PyData) : Prop := ∃ z b, ds = [zd z, fr b] ∧ zok z ∧ Sm b ∧ d = .bool (aboveB z b)
abbrev DLIsAbove (P : Program) (w : World) (K : PySem.W.Frag) (mg : Str → Option Value) (base : Heap) := Def P w K mg base "_law_is_above" ["_law_zero", "_law_bound"] 33 (spR K 2 rLIsAbove)
theorem ok_l_is_above {f : Addr} {fd : FuncData} (F : Fun K "_law_is_above" "_law_is_above" sLIsAbove f fd) (hg : mg "_law_is_above" = some (.ref f)) (hb : Binds K fd ["_law_zero", "_law_bound"] []) (ba : Bas P mg base) : DLIsAbove P w K mg base := by
  refine fn_R F scLIsAbove hg hb ba (by decide) rfl fun ds d hR _ => ?_
  obtain ⟨z, b, rfl, hz, hs, rfl⟩ := hR
  have B0 := ba.b0
  have hb1 := hs.1
  have hb2 := hs.2
  cases z with
  | rat q =>
    have hq1 : q.num.natAbs < 2 ^ 40 := hz.1
    have hq2 : q.den < 2 ^ 40 := hz.2
    show R _ [.dat (.tuple [fr q, .int 0]), .dat (fr b), .any, .any] [] _ _ _
    refine r_asg (d := .tuple [fr q, .int 0]) (by walk_at "bb") (bg_pair (i := 2) (j := 3) rfl (by walk_at "loc") rfl (by walk_at "loc")) (by walk_at "sw") (by walk_at "sw") (fun _ => rfl) ?_
    show R _ [.dat (.tuple [fr q, .int 0]), .dat (fr b), .dat (fr q), .dat (.int 0)] [] _ _ _
    have m1 : IntMulOk q.num (b.den : Int) := CMul.ok (.inl ⟨by omega, by omega⟩)
    have m2 : IntMulOk b.num (q.den : Int) := CMul.ok (.inl ⟨by omega, by omega⟩)
    refine r_if (t := decide ((0 : Int) = 0)) (by walk_at "bb") (fun _ => ?_) fun h => by cases (show true = false from h)
    exact r_ret (b_cmp (.gt (q.num * b.den) (b.num * q.den)) (by walk_at "bb") (by walk_at "bb") rfl) rfl
  | root s k =>
    have hk1 : 0 < k := hz.1
    have hk2 : k < 2 ^ 40 := hz.2
    show R _ [.dat (.tuple [.int s, .int k]), .dat (fr b), .any, .any] [] _ _ _
    refine r_asg (d := .tuple [.int s, .int k]) (by walk_at "bb") (bg_pair (i := 2) (j := 3) rfl (by walk_at "loc") rfl (by walk_at "loc")) (by walk_at "sw") (by walk_at "sw") (fun _ => rfl) ?_
    show R _ [.dat (.tuple [.int s, .int k]), .dat (fr b), .dat (.int s), .dat (.int k)] [] _ _ _
    have m1 : IntMulOk b.num b.num := CMul.ok (.inl ⟨by omega, by omega⟩)
    have m2 : IntMulOk k (b.den : Int) := CMul.ok (.inl ⟨by omega, by omega⟩)
    have m3 : IntMulOk (k * (b.den : Int)) (b.den : Int) := CMul.ok (.inr ⟨by omega, by omega⟩)
    refine r_if (t := decide (k = 0)) (by walk_at "bb") (fun h => by have := of_decide_eq_true h; omega) fun _ => r_nil ?_
    refine r_if (t := decide (s = 1)) (by walk_at "bb") (fun h => ?_) fun h => r_nil ?_
    · have h : s = 1 := of_decide_eq_true h
      refine r_ret (d := .bool (aboveB (.root s k) b)) ?_ rfl
      rw [show aboveB (.root s k) b = (decide (b.num < 0) || decide (b.num * b.num < k * b.den * b.den)) from if_pos h]
      exact b_or (b_cmp (.lt _ _) (by walk_at "bb") (by walk_at "bb") rfl) fun _ => b_one (b_cmp (.lt _ _) (by walk_at "bb") (by walk_at "bb") rfl)
    · have h : ¬ s = 1 := of_decide_eq_false h
      refine r_ret (d := .bool (aboveB (.root s k) b)) ?_ rfl
      rw [show aboveB (.root s k) b = (decide (b.num < 0) && decide (k * b.den * b.den < b.num * b.num)) from if_neg h]
      exact b_and (b_cmp (.lt _ _) (by walk_at "bb") (by walk_at "bb") rfl) fun _ => b_one (b_cmp (.gt _ _) (by walk_at "bb") (by walk_at "bb") rfl)
def many (zs : List Zr) (lo hi : Rat) : Int := ((zs.filter (inSt lo hi)).length : Nat)
def rLMany (ds : List PyData) (d : PyData) : Prop := ∃ zs lo hi, ds = [.list (zs.map zd), fr lo, fr hi] ∧ zs.length ≤ 1000 ∧ (∀ z ∈ zs, zok z) ∧ Sm lo ∧ Sm hi ∧ d = .int (many zs lo hi)
abbrev DLMany (P : Program) (w : World) (K : PySem.W.Frag) (mg : Str → Option Value) (base : Heap) := Def P w K mg base "_law_many" ["_law_zeros_here", "_law_low_here", "_law_high"] 34 (spR K 3 rLMany)
theorem ok_l_many {f : Addr} {fd : FuncData} (F : Fun K "_law_many" "_law_many" sLMany f fd) (hg : mg "_law_many" = some (.ref f)) (hb : Binds K fd ["_law_zeros_here", "_law_low_here", "_law_high"] []) (ba : Bas P mg base) (D1 : DLIsAbove P w K mg base) : DLMany P w K mg base := by
  refine fn_R F scLMany hg hb ba (by decide) rfl fun ds d hR _ => ?_
  obtain ⟨zs, lo, hi, rfl, hl, hz, h1, h2, rfl⟩ := hR
  have B0 := ba.b0
  show R _ [.dat (.list (zs.map zd)), .dat (fr lo), .dat (fr hi), .any] [] _ _ _
  refine r_ret (d := .int (many zs lo hi)) (B.cast (b_lenL B0 (fun _ => rfl) rfl (bl_lc (as := zs) (g := zd) (f := inSt lo hi) (v := zd) [("_law_zero", 3)] (by kernel_rfl) (bi_list (by walk_at "bb")) (by omega) (fun c hc => ?_) (fun _ _ => rfl)).toB) ?_) rfl
  · refine ⟨_, [3], by simp, bg_name (i := 3) rfl (by walk_at "loc"), bts_one (bt_w (bw_and (bt_val ?_ fun _ _ => rfl) fun _ => bw_and1 (bt_not (bt_val ?_ fun _ _ => rfl)))), fun _ => ?_⟩
    · show B _ [.dat (.list (zs.map zd)), .dat (fr lo), .dat (fr hi), .dat (zd c)] _ _ (.bool (aboveB c lo))
      exact b_callI D1 (by walk_at "hk") (by kernel_rfl) (ds := [zd c, fr lo]) (by walk_at "bb") ⟨_, _, rfl, hz c hc, h1, rfl⟩ rfl (fun _ => rfl) (fun _ => rfl) (by kernel_rfl)
    · show B _ [.dat (.list (zs.map zd)), .dat (fr lo), .dat (fr hi), .dat (zd c)] _ _ (.bool (aboveB c hi))
      exact b_callI D1 (by walk_at "hk") (by kernel_rfl) (ds := [zd c, fr hi]) (by walk_at "bb") ⟨_, _, rfl, hz c hc, h2, rfl⟩ rfl (fun _ => rfl) (fun _ => rfl) (by kernel_rfl)
    · show B _ [.dat (.list (zs.map zd)), .dat (fr lo), .dat (fr hi), .dat (zd c)] _ _ (zd c)
      walk_at "bb"
  · unfold lcRes many
    rw [List.length_map]
end
end Mf
end

-- text L4
section
set_option Elab.async false
set_option linter.all false
set_option autoImplicit false
set_option maxRecDepth 100000
set_option maxHeartbeats 200000
namespace Mf
open PySem PySem.Spec PyProof.Rows L2 Evl
local macro_rules | `(tactic| walk_at "ix") => `(tactic| first | (with_reducible exact .here) | (with_reducible apply Ix.there; walk_at "ix"))
local macro_rules | `(tactic| walk_at "loc") => `(tactic| (refine loc_of ?_; kernel_rfl))
local macro_rules | `(tactic| walk_at "hk") => `(tactic| exact Nat.le_of_ble_eq_true rfl)
local macro_rules | `(tactic| walk_at "rel") => `(tactic| first | exact ⟨_, rfl, rfl⟩ | exact ⟨_, _, rfl, rfl⟩ | exact ⟨_, _, _, rfl, rfl⟩ | exact ⟨_, rfl, by assumption, rfl⟩ | exact ⟨_, _, rfl, by assumption, rfl⟩ | exact ⟨_, _, rfl, by assumption, by assumption, rfl⟩)
local macro_rules | `(tactic| walk_at "sw") => `(tactic| (intro env h; first | rfl | (cases env; cases h; rfl)))
/-- an expression, its side questions -/
local macro_rules | `(tactic| walk_at "bb") => `(tactic| first
  | ((with_reducible apply b_vi) <;> first | ((with_reducible show Ix _ _ _); walk_at "ix") | ((with_reducible show visB _ _ = true); kernel_rfl) | ((with_reducible show okN _ = true); kernel_rfl) | rfl)
  | ((with_reducible apply b_int) <;> walk_at "bb")
  | ((with_reducible apply b_bool) <;> walk_at "bb")
  | ((with_reducible apply b_non) <;> walk_at "bb")
  | ((with_reducible apply b_str) <;> walk_at "bb")
  | ((with_reducible apply b_add) <;> walk_at "bb")
  | ((with_reducible apply b_sub) <;> walk_at "bb")
  | ((with_reducible apply b_mul) <;> walk_at "bb")
  | ((with_reducible apply b_mod) <;> walk_at "bb")
  | ((with_reducible apply b_fdiv) <;> walk_at "bb")
  | ((with_reducible apply b_neg) <;> walk_at "bb")
  | ((with_reducible apply b_pow) <;> walk_at "bb")
  | ((with_reducible apply b_tup) <;> walk_at "bb")
  | ((with_reducible apply b_ixT) <;> walk_at "bb")
  | ((with_reducible apply b_ixL) <;> walk_at "bb")
  | ((with_reducible apply b_abs) <;> walk_at "bb")
  | ((with_reducible apply b_lenT) <;> walk_at "bb")
  | ((with_reducible apply b_lenL) <;> walk_at "bb")
  | ((with_reducible apply b_max2) <;> walk_at "bb")
  | ((with_reducible apply b_intI) <;> walk_at "bb")
  | ((with_reducible apply b_intB) <;> walk_at "bb")
  | ((with_reducible apply b_tupleL) <;> walk_at "bb")
  | ((with_reducible apply b_all) <;> walk_at "bb")
  | ((with_reducible apply b_sum) <;> walk_at "bb")
  | ((with_reducible apply b_if) <;> walk_at "bb")
  | ((with_reducible apply b_and) <;> walk_at "bb")
  | ((with_reducible apply b_or) <;> walk_at "bb")
  | ((with_reducible apply b_not) <;> walk_at "bb")
  | ((with_reducible apply b_one) <;> walk_at "bb")
  | ((with_reducible apply b_cmp) <;> walk_at "bb")
  | ((with_reducible apply ba_nil) <;> walk_at "bb")
  | ((with_reducible apply ba_cons) <;> walk_at "bb")
  | ((with_reducible apply b_callI) <;> walk_at "bb")
  | ((with_reducible apply bt_cmp) <;> walk_at "bb")
  | ((with_reducible apply bt_not) <;> walk_at "bb")
  | ((with_reducible show IsG _ _); kernel_rfl)
  | ((with_reducible show okN _ = true); kernel_rfl)
  | (with_reducible assumption)
  | (with_reducible exact CmpD.gt _ _)
  | (with_reducible exact CmpD.lt _ _)
  | (with_reducible exact CmpD.ge _ _)
  | (with_reducible exact CmpD.le _ _)
  | (with_reducible exact CmpD.eqI _ _)
  | (with_reducible exact CmpD.neI _ _)
  | ((with_reducible show _ = _); rfl)
  | ((with_reducible show (_ : Nat) ≤ _); first | walk_at "hk" | decide)
  | ((with_reducible show (0 : Int) < _); omega)
  | (intro _; rfl)
  | (intro _ _; rfl)
  | walk_at "rel")
section
variable {P : Program} {w : World} {K : PySem.W.Frag} {mg : Str → Option Value} {base : Heap}
/-! ### small fractions -/
def Sa (q : Rat) : Prop := q.num.natAbs ≤ 30 ∧ q.den ≤ 7
def Sb (q : Rat) : Prop := q.num.natAbs ≤ 1000 ∧ q.den ≤ 30
theorem Sa.sb {q : Rat} (h : Sa q) : Sb q := ⟨by have := h.1; omega, by have := h.2; omega⟩
theorem Sb.sm {q : Rat} (h : Sb q) : Sm q := ⟨by have := h.1; omega, by have := h.2; omega⟩
theorem divInt_le {a b : Int} (h : 0 < b) : (Rat.divInt a b).num.natAbs ≤ a.natAbs ∧ ((Rat.divInt a b).den : Int) ≤ b := by
  obtain ⟨h1, h2⟩ := divInt_parts a b h
  rw [h1, h2]
  refine ⟨Int.natAbs_ediv_le_natAbs _ _, Int.ediv_le_self _ (by omega)⟩
theorem add_le {q r : Rat} : (q + r).num.natAbs ≤ q.num.natAbs * r.den + r.num.natAbs * q.den ∧ (q + r).den ≤ q.den * r.den := by
  rw [← add_divInt]
  obtain ⟨h1, h2⟩ := divInt_le (a := q.num * r.den + r.num * q.den) (den_mul_pos q r)
  refine ⟨Nat.le_trans h1 (Nat.le_trans (Int.natAbs_add_le _ _) ?_), ?_⟩
  · rw [Int.natAbs_mul, Int.natAbs_mul]
    exact Nat.le_refl _
  · exact Int.ofNat_le.mp (by rw [Int.natCast_mul]; exact h2)
theorem mul_le {q r : Rat} : (q * r).num.natAbs ≤ q.num.natAbs * r.num.natAbs ∧ (q * r).den ≤ q.den * r.den := by
  rw [← mul_divInt]
  obtain ⟨h1, h2⟩ := divInt_le (a := q.num * r.num) (den_mul_pos q r)
  refine ⟨by rw [← Int.natAbs_mul]; exact h1, ?_⟩
  exact Int.ofNat_le.mp (by rw [Int.natCast_mul]; exact h2)
/-! ### stretch -/
def isRat : Zr → Bool | .rat _ => true | _ => false
def zq : Zr → PyData | .rat q => fr q | .root s _ => .int s
def zsa : Zr → Prop | .rat q => Sa q | .root _ k => 0 < k ∧ k ≤ 10
def preStretch (cs ds : List PyData) : Prop := ∃ (N : Nat) (zs : List Zr), N ≤ 99000 ∧ Cn N cs ∧ ds = [.list (zs.map zd)] ∧ zs.length ≤ 100 ∧ ∀ z ∈ zs, zsa z
def postStretch (cs ds cs' : List PyData) (d : PyData) : Prop := (∀ N, Cn N cs → Cn (N + 5) cs') ∧ ∃ lo hi : Rat, d = .tuple [fr lo, fr hi] ∧ lo < hi ∧ Sb lo ∧ Sb hi
abbrev DStretch (P : Program) (w : World) (K : PySem.W.Frag) (mg : Str → Option Value) (base : Heap) := Def P w K mg base "_law_stretch" ["_law_counter_here", "_law_zeros_here"] 35 (spE K 2 preStretch postStretch)
theorem fr_13 : fr (1 / 3 : Rat) = .tuple [.int 1, .int 3] := by
  show PyData.tuple [.int (1 / 3 : Rat).num, .int (1 / 3 : Rat).den] = _
  rw [show (1 / 3 : Rat).num = 1 by decide +kernel, show (1 / 3 : Rat).den = 3 by decide +kernel]
  rfl
theorem ok_l_stretch {f : Addr} {fd : FuncData} (F : Fun K "_law_stretch" "_law_stretch" sLStretch f fd) (hg : mg "_law_stretch" = some (.ref f)) (hb : Binds K fd ["_law_counter_here", "_law_zeros_here"] []) (ba : Bas P mg base) (D1 : DTally P w K mg base) (D2 : DPick P w K mg base) (D3 : DLLow P w K mg base) (D4 : DLPlus P w K mg base) : DStretch P w K mg base := by
  refine fn_E F scLStretch hg hb ba (by decide) rfl fun c cs ds hR _ => ?_
  obtain ⟨N, zs, hN, hc, rfl, hzl, hz⟩ := hR
  have B0 := ba.b0
  show R _ [.adr c, .dat (.list (zs.map zd)), .any, .any, .any, .any] [(c, cs)] _ _ _
  refine r_setE (i := 2) rfl (by walk_at "loc") (be_cat (bl_lc (as := zs) (g := zd) (f := isRat) (v := zq) [("_law_zero", 5)] (by kernel_rfl) (bi_list (by walk_at "bb")) (by omega) (fun z hzm => ?_) (fun _ _ => rfl)).toB (be_rep (bae_cons (be_callR D3 (by walk_at "hk") (by kernel_rfl) (bae_cons (be_sub (be_mono (be_call D1 (by walk_at "hk") (by kernel_rfl) (i := 0) (ds := [.int 61]) rfl rfl (vis_of (by kernel_rfl)) (by walk_at "bb") rfl ⟨N, 61, by omega, hc, rfl, by decide⟩ (fun cs' d hp => hp) (fun _ => rfl) (fun _ => rfl) (by kernel_rfl) (by kernel_rfl)) fun cs1 d hp => ?_)) (fun _ => rfl)) (fun _ => rfl) (fun _ => rfl) (by kernel_rfl)) (fun _ => rfl)))) (by walk_at "sw")
  · cases z with
    | rat q =>
      refine ⟨_, [5], by simp, bg_name (i := 5) rfl (by walk_at "loc"), bts_one (b := true) (bt_cmp (.eqI 0 0) (b_ixT (ds := [fr q, .int 0]) (n := 1) ?_ (by walk_at "bb") rfl (fun _ _ => rfl)) (by walk_at "bb") rfl), fun _ => ?_⟩
      · show B _ [.adr c, .dat (.list (zs.map zd)), .any, .any, .any, .dat (.tuple [fr q, .int 0])] _ _ _
        walk_at "bb"
      · show B _ [.adr c, .dat (.list (zs.map zd)), .any, .any, .any, .dat (.tuple [fr q, .int 0])] _ _ (fr q)
        exact b_ixT (ds := [fr q, .int 0]) (n := 0) (by walk_at "bb") (by walk_at "bb") rfl (fun _ _ => rfl)
    | root s k =>
      have hk : 0 < k := (hz _ hzm).1
      refine ⟨_, [5], by simp, bg_name (i := 5) rfl (by walk_at "loc"), ?_, fun h => by cases h⟩
      rw [show isRat (.root s k) = decide (k = 0) from (decide_eq_false (by omega)).symm]
      refine bts_one (bt_cmp (.eqI k 0) (b_ixT (ds := [.int s, .int k]) (n := 1) ?_ (by walk_at "bb") rfl (fun _ _ => rfl)) (by walk_at "bb") rfl)
      show B _ [.adr c, .dat (.list (zs.map zd)), .any, .any, .any, .dat (.tuple [.int s, .int k])] _ _ _
      walk_at "bb"
  obtain ⟨h1, h2⟩ := hp
  obtain ⟨k, rfl, hk0, hk1⟩ := h2 _ rfl
  have hc1 := h1 N hc
  refine ⟨k, rfl, be_pure (d := .int 30) (by walk_at "bb") ⟨30, rfl, ?_⟩⟩
  refine bae_cons (be_mono (be_call D2 (by walk_at "hk") (by kernel_rfl) (i := 0) (ds := [.list [.int 1, .int 2, .int 3, .int 4]]) rfl rfl (vis_of (by kernel_rfl)) (ba_cons (bl_lst (by walk_at "bb") (Nat.le_of_ble_eq_true rfl)).toB ba_nil (fun _ => rfl)) rfl ⟨N + 1, _, by omega, hc1, rfl, by simp, by simp⟩ (fun cs' d hp => hp) (fun _ => rfl) (fun _ => rfl) (by kernel_rfl) (by kernel_rfl)) fun cs2 d hp => ?_) (fun _ => rfl)
  obtain ⟨h3, h4⟩ := hp
  have hd := h4 _ rfl
  have hj : ∃ j : Int, d = .int j ∧ 1 ≤ j ∧ j ≤ 4 := by
    simp only [List.mem_cons, List.not_mem_nil, or_false] at hd
    rcases hd with rfl | rfl | rfl | rfl <;> exact ⟨_, rfl, by decide, by decide⟩
  obtain ⟨j, rfl, hj1, hj2⟩ := hj
  have hc2 := h3 _ hc1
  have hx : Sa (Rat.divInt (k - 30) j) := by
    obtain ⟨a1, a2⟩ := divInt_le (a := k - 30) (b := j) (by omega)
    exact ⟨by omega, by omega⟩
  generalize hxe : Rat.divInt (k - 30) j = x at hx
  refine bae_nil ⟨rfl, fr x, ⟨_, _, rfl, by omega, by rw [hxe]⟩, bae_nil ⟨by simp, 2, by walk_at "bb", by decide, by decide, _, rfl, ?_, ?_⟩⟩
  · have := List.length_filter_le isRat zs
    unfold lcRes
    simp
    omega
  have hends : ∀ d ∈ lcRes zs isRat zq ++ (List.replicate (2 : Int).toNat [fr x]).flatten, ∃ q, d = fr q ∧ Sa q := by
    intro d hd
    rcases List.mem_append.mp hd with hd | hd
    · unfold lcRes at hd
      obtain ⟨z, hzm, rfl⟩ := List.mem_map.mp hd
      obtain ⟨hzm, hzr⟩ := List.mem_filter.mp hzm
      cases z with
      | rat q => exact ⟨q, rfl, hz _ hzm⟩
      | root s k => cases hzr
    · have : d = fr x := by simpa using hd
      exact ⟨x, this, hx⟩
  have hlen : (lcRes zs isRat zq ++ (List.replicate (2 : Int).toNat [fr x]).flatten).length ≤ 1000 := by
    have := List.length_filter_le isRat zs
    unfold lcRes
    simp
    omega
  have hne : lcRes zs isRat zq ++ (List.replicate (2 : Int).toNat [fr x]).flatten ≠ [] := by
    intro z
    have := congrArg List.length z
    simp at this
  generalize lcRes zs isRat zq ++ (List.replicate (2 : Int).toNat [fr x]).flatten = ends at hends hlen hne
  show R _ [.adr c, .dat (.list (zs.map zd)), .dat (.list ends), .any, .any, .any] [(c, cs2)] _ _ _
  refine r_parE (i := 3) (j := 4) rfl rfl (by decide) rfl rfl (bae_cons (be_mono (be_call D2 (by walk_at "hk") (by kernel_rfl) (i := 0) (ds := [.list ends]) rfl rfl (vis_of (by kernel_rfl)) (by walk_at "bb") rfl ⟨N + 1 + 1, _, by omega, hc2, rfl, hne, hlen⟩ (fun cs' d hp => hp) (fun _ => rfl) (fun _ => rfl) (by kernel_rfl) (by kernel_rfl)) fun cs3 d1 hp1 => ?_) (fun _ => rfl)) (by walk_at "sw") (by walk_at "sw")
  obtain ⟨h5, h6⟩ := hp1
  have hc3 := h5 _ hc2
  refine bae_cons (be_mono (be_call D2 (by walk_at "hk") (by kernel_rfl) (i := 0) (ds := [.list ends]) rfl rfl (vis_of (by kernel_rfl)) (by walk_at "bb") rfl ⟨N + 1 + 1 + 1, _, by omega, hc3, rfl, hne, hlen⟩ (fun cs' d hp => hp) (fun _ => rfl) (fun _ => rfl) (by kernel_rfl) (by kernel_rfl)) fun cs4 d2 hp2 => ?_) (fun _ => rfl)
  obtain ⟨h7, h8⟩ := hp2
  have hc4 := h7 _ hc3
  obtain ⟨lo, rfl, hlo⟩ := hends _ (h6 _ rfl)
  obtain ⟨hi, rfl, hhi⟩ := hends _ (h8 _ rfl)
  refine bae_nil ⟨_, _, rfl, ?_⟩
  show R _ [.adr c, .dat (.list (zs.map zd)), .dat (.list ends), .dat (fr lo), .dat (fr hi), .any] [(c, cs4)] _ _ _
  have key : ∀ lo hi : Rat, Sa lo → Sa hi → lo ≤ hi → R (stc P w K mg base ["_law_counter_here", "_law_zeros_here", "_law_ends", "_law_low_here", "_law_high", "_law_zero"] sLStretch 34) [.adr c, .dat (.list (zs.map zd)), .dat (.list ends), .dat (fr lo), .dat (fr hi), .any] [(c, cs4)] ((defBody sLStretch).drop 3) (fun _ _ => False) (fun d' ow' => ∃ cs', ow' = [(c, cs')] ∧ postStretch cs [.list (zs.map zd)] cs' d') := fun lo hi hlo hhi hle => by
    refine r_retE (be_if (t := !decide (lo = hi)) ?_ (fun h => ?_) fun h => ?_)
    · rw [← eqv_fr]
      exact bt_cmp (.neD _ _ (shaped_fr _) (shaped_fr _)) (by walk_at "bb") (by walk_at "bb") rfl
    · have hne : lo ≠ hi := by
        intro z
        rw [decide_eq_true z] at h
        cases h
      exact be_pure (d := .tuple [fr lo, fr hi]) (by walk_at "bb") ⟨cs4, rfl, fun M hM => (h7 _ (h5 _ (h3 _ (h1 M hM)))).mono (by omega), lo, hi, rfl, Rat.lt_of_le_of_ne hle hne, hlo.sb, hhi.sb⟩
    · refine be_tup (bae_cons (be_pure (d := fr lo) (by walk_at "bb") (bae_cons (be_callR D4 (by walk_at "hk") (by kernel_rfl) (bae_cons (be_pure (d := fr lo) (by walk_at "bb") (bae_cons (be_mono (be_call D2 (by walk_at "hk") (by kernel_rfl) (i := 0) (ds := [.list [.tuple [.int 1, .int 1], .tuple [.int 1, .int 3], .tuple [.int 20, .int 1]]]) rfl rfl (vis_of (by kernel_rfl)) (ba_cons (bl_lst (by walk_at "bb") (Nat.le_of_ble_eq_true rfl)).toB ba_nil (fun _ => rfl)) rfl ⟨N + 1 + 1 + 1 + 1, _, by omega, hc4, rfl, by simp, by simp⟩ (fun cs' d hp => hp) (fun _ => rfl) (fun _ => rfl) (by kernel_rfl) (by kernel_rfl)) fun cs5 d hp => ?_) (fun _ => rfl))) (fun _ => rfl)) (fun _ => rfl) (fun _ => rfl) (by kernel_rfl)) (fun _ => rfl))) (fun _ => rfl))
      obtain ⟨h9, h10⟩ := hp
      have hd := h10 _ rfl
      have hr : ∃ r : Rat, d = fr r ∧ 0 < r ∧ Sb r ∧ Sb (lo + r) := by
        obtain ⟨b1, b2⟩ := hlo
        simp only [List.mem_cons, List.not_mem_nil, or_false] at hd
        rcases hd with rfl | rfl | rfl
        · refine ⟨1, rfl, by decide +kernel, ⟨by decide +kernel, by decide +kernel⟩, ?_⟩
          obtain ⟨a1, a2⟩ := add_le (q := lo) (r := 1)
          rw [show (1 : Rat).den = 1 from rfl, show (1 : Rat).num.natAbs = 1 from rfl] at a1
          rw [show (1 : Rat).den = 1 from rfl] at a2
          exact ⟨by omega, by omega⟩
        · refine ⟨1 / 3, fr_13.symm, by decide +kernel, ⟨by decide +kernel, by decide +kernel⟩, ?_⟩
          obtain ⟨a1, a2⟩ := add_le (q := lo) (r := 1 / 3)
          rw [show (1 / 3 : Rat).den = 3 by decide +kernel, show (1 / 3 : Rat).num.natAbs = 1 by decide +kernel] at a1
          rw [show (1 / 3 : Rat).den = 3 by decide +kernel] at a2
          exact ⟨by omega, by omega⟩
        · refine ⟨20, rfl, by decide +kernel, ⟨by decide +kernel, by decide +kernel⟩, ?_⟩
          obtain ⟨a1, a2⟩ := add_le (q := lo) (r := 20)
          rw [show (20 : Rat).den = 1 from rfl, show (20 : Rat).num.natAbs = 20 from rfl] at a1
          rw [show (20 : Rat).den = 1 from rfl] at a2
          exact ⟨by omega, by omega⟩
      obtain ⟨r, rfl, hr0, hrs, hrb⟩ := hr
      refine bae_nil ⟨rfl, fr (lo + r), ⟨_, _, rfl, hlo.sb.sm.sf, hrs.sm.sf, rfl⟩, bae_nil ⟨by simp, cs5, rfl, fun M hM => h9 _ (h7 _ (h5 _ (h3 _ (h1 M hM)))), lo, lo + r, rfl, ?_, hlo.sb, hrb⟩⟩
      have := (Rat.add_lt_add_left (c := lo)).mpr hr0
      rwa [Rat.add_zero] at this
  have s1 := hlo.sb.sm.sf
  have s2 := hhi.sb.sm.sf
  have m1 := SI.mul s1.1 s2.2
  have m2 := SI.mul s2.1 s1.2
  refine r_if (t := decide (hi.num * lo.den < lo.num * hi.den)) (bt_cmp (.gt _ _) (by walk_at "bb") (by walk_at "bb") rfl) (fun h => ?_) fun h => r_nil ?_
  · have h : hi < lo := (Rat.lt_iff _ _).mpr (of_decide_eq_true h)
    refine r_par (i := 3) (j := 4) rfl rfl (by decide) rfl rfl (by walk_at "bb") (by walk_at "sw") (by walk_at "sw") (r_nil ?_)
    exact key hi lo hhi hlo (Rat.le_of_lt h)
  · have h : ¬ hi < lo := fun z => of_decide_eq_false h ((Rat.lt_iff _ _).mp z)
    exact key lo hi hlo hhi (Rat.not_lt.mp h)
end
end Mf
end

-- text L5
section
set_option Elab.async false
set_option linter.all false
set_option autoImplicit false
set_option maxRecDepth 100000
set_option maxHeartbeats 200000
namespace Mf
open PySem PySem.Spec PyProof.Rows L2 Evl
local macro_rules | `(tactic| walk_at "ix") => `(tactic| first | (with_reducible exact .here) | (with_reducible apply Ix.there; walk_at "ix"))
local macro_rules | `(tactic| walk_at "loc") => `(tactic| (refine loc_of ?_; kernel_rfl))
local macro_rules | `(tactic| walk_at "hk") => `(tactic| exact Nat.le_of_ble_eq_true rfl)
local macro_rules | `(tactic| walk_at "rel") => `(tactic| first | exact ⟨_, rfl, rfl⟩ | exact ⟨_, _, rfl, rfl⟩ | exact ⟨_, _, _, rfl, rfl⟩ | exact ⟨_, rfl, by assumption, rfl⟩ | exact ⟨_, _, rfl, by assumption, rfl⟩ | exact ⟨_, _, rfl, by assumption, by assumption, rfl⟩)
local macro_rules | `(tactic| walk_at "sw") => `(tactic| (intro env h; first | rfl | (cases env; cases h; rfl)))
/-- an expression, its side questions -/
local macro_rules | `(tactic| walk_at "bb") => `(tactic| first
  | ((with_reducible apply b_vi) <;> first | ((with_reducible show Ix _ _ _); walk_at "ix") | ((with_reducible show visB _ _ = true); kernel_rfl) | ((with_reducible show okN _ = true); kernel_rfl) | rfl)
  | ((with_reducible apply b_int) <;> walk_at "bb")
  | ((with_reducible apply b_bool) <;> walk_at "bb")
  | ((with_reducible apply b_non) <;> walk_at "bb")
  | ((with_reducible apply b_str) <;> walk_at "bb")
  | ((with_reducible apply b_add) <;> walk_at "bb")
  | ((with_reducible apply b_sub) <;> walk_at "bb")
  | ((with_reducible apply b_mul) <;> walk_at "bb")
  | ((with_reducible apply b_mod) <;> walk_at "bb")
  | ((with_reducible apply b_fdiv) <;> walk_at "bb")
  | ((with_reducible apply b_neg) <;> walk_at "bb")
  | ((with_reducible apply b_pow) <;> walk_at "bb")
  | ((with_reducible apply b_tup) <;> walk_at "bb")
  | ((with_reducible apply b_ixT) <;> walk_at "bb")
  | ((with_reducible apply b_ixL) <;> walk_at "bb")
  | ((with_reducible apply b_abs) <;> walk_at "bb")
  | ((with_reducible apply b_lenT) <;> walk_at "bb")
  | ((with_reducible apply b_lenL) <;> walk_at "bb")
  | ((with_reducible apply b_max2) <;> walk_at "bb")
  | ((with_reducible apply b_intI) <;> walk_at "bb")
  | ((with_reducible apply b_intB) <;> walk_at "bb")
  | ((with_reducible apply b_tupleL) <;> walk_at "bb")
  | ((with_reducible apply b_all) <;> walk_at "bb")
  | ((with_reducible apply b_sum) <;> walk_at "bb")
  | ((with_reducible apply b_if) <;> walk_at "bb")
  | ((with_reducible apply b_and) <;> walk_at "bb")
  | ((with_reducible apply b_or) <;> walk_at "bb")
  | ((with_reducible apply b_not) <;> walk_at "bb")
  | ((with_reducible apply b_one) <;> walk_at "bb")
  | ((with_reducible apply b_cmp) <;> walk_at "bb")
  | ((with_reducible apply ba_nil) <;> walk_at "bb")
  | ((with_reducible apply ba_cons) <;> walk_at "bb")
  | ((with_reducible apply b_callI) <;> walk_at "bb")
  | ((with_reducible apply bt_cmp) <;> walk_at "bb")
  | ((with_reducible apply bt_not) <;> walk_at "bb")
  | ((with_reducible show IsG _ _); kernel_rfl)
  | ((with_reducible show okN _ = true); kernel_rfl)
  | (with_reducible assumption)
  | (with_reducible exact CmpD.gt _ _)
  | (with_reducible exact CmpD.lt _ _)
  | (with_reducible exact CmpD.ge _ _)
  | (with_reducible exact CmpD.le _ _)
  | (with_reducible exact CmpD.eqI _ _)
  | (with_reducible exact CmpD.neI _ _)
  | ((with_reducible show _ = _); rfl)
  | ((with_reducible show (_ : Nat) ≤ _); first | walk_at "hk" | decide)
  | ((with_reducible show (0 : Int) < _); omega)
  | (intro _; rfl)
  | (intro _ _; rfl)
  | walk_at "rel")
section
variable {P : Program} {w : World} {K : PySem.W.Frag} {mg : Str → Option Value} {base : Heap}
/-! ### zeros as data -/
theorem eqv_zd (a b : Zr) : PyData.eqv (zd a) (zd b) = decide (a = b) := by
  cases a with
  | rat q =>
    cases b with
    | rat r =>
      have h := eqv_fr q r
      have e : PyData.eqv (zd (.rat q)) (zd (.rat r)) = PyData.eqv (fr q) (fr r) := by
        simp [PyData.eqv, PyData.eqvAll]
      rw [e, h]
      exact decide_eq_decide.mpr (by simp)
    | root s k => simp [zd, PyData.eqv, PyData.eqvAll]
  | root s k =>
    cases b with
    | rat r => simp [zd, PyData.eqv, PyData.eqvAll]
    | root s' k' =>
      simp only [PyData.eqv, PyData.eqvAll, Bool.and_true]
      rw [beq_dec, beq_dec, ← Bool.decide_and]
      exact decide_eq_decide.mpr (by simp)
theorem shaped_zd (a : Zr) : SeqAt.shaped (zd a) = true := by
  cases a <;> simp [zd, SeqAt.shaped, PyData.canLay0, PyData.canLayAll0, PyData.depth, PyData.depthAll]
theorem shaped_zds (zs : List Zr) : SeqAt.shaped (.list (zs.map zd)) = true := by
  have h1 : PyData.canLayAll0 (zs.map zd) = true := by
    induction zs with
    | nil => simp [PyData.canLayAll0]
    | cons a l ih => cases a <;> simp [zd, PyData.canLayAll0, PyData.canLay0, ih]
  have h2 : PyData.depthAll (zs.map zd) ≤ 2 := by
    clear h1
    induction zs with
    | nil => simp [PyData.depthAll]
    | cons a l ih => cases a <;> simp [zd, PyData.depthAll, PyData.depth] <;> omega
  simp [SeqAt.shaped, PyData.canLay0, PyData.depth, h1]
  omega
theorem any_zd (zs : List Zr) (a : Zr) : ((zs.map zd).any fun z => PyData.eqv z (zd a)) = decide (a ∈ zs) := by
  induction zs with
  | nil => simp
  | cons b l ih =>
    rw [List.map_cons, List.any_cons, ih, eqv_zd, ← Bool.decide_or]
    exact decide_eq_decide.mpr (by simp [eq_comm])
theorem fa_count (L : List Fa) : L.length = L.countP isLin + L.countP isSq + L.countP isQ + L.countP isX := by
  induction L with
  | nil => rfl
  | cons f L ih => cases f <;> simp [List.countP_cons, isLin, isSq, isQ, isX, ih] <;> omega
theorem zs_len (L : List Fa) : ∀ zs : List Zr, (L.foldl zadd zs).length ≤ zs.length + 2 * L.length := by
  induction L with
  | nil => intro zs; simp
  | cons f L ih =>
    intro zs
    rw [List.foldl_cons]
    have h : (zadd zs f).length ≤ zs.length + 2 := by
      cases f <;> simp only [zadd]
      case lin r => split <;> simp
      case sq k =>
        rw [List.length_append]
        have := List.length_filter_le (fun z => decide (z ∉ zs)) [Zr.root 1 k, Zr.root (-1) k]
        simp at this ⊢
        omega
      all_goals omega
    have := ih (zadd zs f)
    simp only [List.length_cons]
    omega
/-- kinds of factors, how many -/
structure GL (L : List Fa) (a b q : Nat) : Prop where
  f : ∀ f ∈ L, fok f
  nl : L.countP isLin ≤ a
  ns : L.countP isSq ≤ b
  nq : L.countP isQ ≤ q
  nx : L.countP isX = 0
theorem GL.nil : GL [] 0 0 0 := ⟨by simp, by simp, by simp, by simp, by simp⟩
theorem GL.mono {L : List Fa} {a b q a' b' q' : Nat} (h : GL L a b q) (h1 : a ≤ a') (h2 : b ≤ b') (h3 : q ≤ q') : GL L a' b' q' := ⟨h.f, Nat.le_trans h.nl h1, Nat.le_trans h.ns h2, Nat.le_trans h.nq h3, h.nx⟩
theorem GL.lin {L : List Fa} {a b q : Nat} {r : Rat} (h : GL L a b q) (hf : fok (.lin r)) : GL (L ++ [.lin r]) (a + 1) b q := by
  refine ⟨fun f hm => ?_, ?_, ?_, ?_, ?_⟩
  · rcases List.mem_append.mp hm with hm | hm
    · exact h.f f hm
    · rw [List.mem_singleton.mp hm]; exact hf
  all_goals rw [List.countP_append]
  · have := h.nl; simp [isLin]; omega
  · have := h.ns; simp [isSq]; omega
  · have := h.nq; simp [isQ]; omega
  · rw [h.nx]; rfl
theorem GL.sq {L : List Fa} {a b q : Nat} {k : Int} (h : GL L a b q) (hf : fok (.sq k)) : GL (L ++ [.sq k]) a (b + 1) q := by
  refine ⟨fun f hm => ?_, ?_, ?_, ?_, ?_⟩
  · rcases List.mem_append.mp hm with hm | hm
    · exact h.f f hm
    · rw [List.mem_singleton.mp hm]; exact hf
  all_goals rw [List.countP_append]
  · have := h.nl; simp [isLin]; omega
  · have := h.ns; simp [isSq]; omega
  · have := h.nq; simp [isQ]; omega
  · rw [h.nx]; rfl
theorem GL.q {L : List Fa} {a b q : Nat} {k : Fa} (h : GL L a b q) (hf : k = .qa ∨ k = .qb) : GL (L ++ [k]) a b (q + 1) := by
  have e1 : isLin k = false := by rcases hf with rfl | rfl <;> rfl
  have e2 : isSq k = false := by rcases hf with rfl | rfl <;> rfl
  have e4 : isX k = false := by rcases hf with rfl | rfl <;> rfl
  have e5 : fok k := by rcases hf with rfl | rfl <;> exact trivial
  refine ⟨fun f hm => ?_, ?_, ?_, ?_, ?_⟩
  · rcases List.mem_append.mp hm with hm | hm
    · exact h.f f hm
    · rw [List.mem_singleton.mp hm]; exact e5
  all_goals rw [List.countP_append]
  · have := h.nl; simp [e1]; omega
  · have := h.ns; simp [e2]; omega
  · have := h.nq
    have : List.countP isQ [k] ≤ 1 := List.countP_le_length
    omega
  · rw [h.nx]; simp [e4]
theorem GL.good {L : List Fa} {a b q : Nat} {c : Rat} (h : GL L a b q) (hc : cok c) (h1 : a ≤ 10) (h2 : b ≤ 2) (h3 : q ≤ 1) : Good c L := ⟨hc, h.f, Nat.le_trans h.nl h1, Nat.le_trans h.ns h2, Nat.le_trans h.nq h3, by rw [h.nx]; omega⟩
theorem GL.zlen {L : List Fa} {a b q : Nat} (h : GL L a b q) : (zsOf L).length ≤ 2 * (a + b + q) := by
  have h1 := zs_len L []
  have h2 := fa_count L
  have := h.nl
  have := h.ns
  have := h.nq
  have := h.nx
  unfold zsOf
  simp only [List.length_nil] at h1
  omega
theorem zadd_again (zs : List Zr) (r : Rat) : zadd (zadd zs (.lin r)) (.lin r) = zadd zs (.lin r) := by
  have h : Zr.rat r ∈ zadd zs (.lin r) := by
    simp only [zadd]
    split
    · assumption
    · simp
  show (if Zr.rat r ∈ zadd zs (.lin r) then _ else _) = _
  rw [if_pos h]
theorem zsOf_rep (L : List Fa) (r : Rat) : ∀ n : Nat, zsOf (L ++ List.replicate (n + 1) (.lin r)) = zadd (zsOf L) (.lin r)
  | 0 => zsOf_snoc L _
  | n + 1 => by
    rw [List.replicate_succ', ← List.append_assoc, zsOf_snoc, zsOf_rep L r n, zadd_again]
theorem fr_1 : fr (1 : Rat) = .tuple [.int 1, .int 1] := rfl
theorem fr_0 : fr (0 : Rat) = .tuple [.int 0, .int 1] := rfl
theorem pq_lin (r : Rat) : pq (fpoly (.lin r)) = .tuple [.tuple [.int (-r.num), .int r.den], .tuple [.int 1, .int 1]] := by
  show PyData.tuple [fr (-r), fr 1] = _
  rw [fr_neg]
  rfl
theorem pq_sq (k : Int) : pq (fpoly (.sq k)) = .tuple [.tuple [.int (-k), .int 1], .tuple [.int 0, .int 1], .tuple [.int 1, .int 1]] := by
  show PyData.tuple [fr (-(k : Rat)), fr 0, fr 1] = _
  rw [fr_neg, Rat.num_intCast, Rat.den_intCast]
  rfl
theorem fr_14 : fr (1 / 4 : Rat) = .tuple [.int 1, .int 4] := by
  show PyData.tuple [.int (1 / 4 : Rat).num, .int (1 / 4 : Rat).den] = _
  rw [show (1 / 4 : Rat).num = 1 by decide +kernel, show (1 / 4 : Rat).den = 4 by decide +kernel]
  rfl
theorem pq_qa : pq (fpoly .qa) = .tuple [.tuple [.int 1, .int 1], .tuple [.int 1, .int 1], .tuple [.int 1, .int 1]] := rfl
theorem pq_qb : pq (fpoly .qb) = .tuple [.tuple [.int 1, .int 4], .tuple [.int 0, .int 1], .tuple [.int 1, .int 1]] := by
  show PyData.tuple [fr (1 / 4), fr 0, fr 1] = _
  rw [fr_14]
  rfl
end
end Mf
end

-- text L6
section
set_option Elab.async false
set_option linter.all false
set_option autoImplicit false
set_option maxRecDepth 100000
set_option maxHeartbeats 200000
namespace Mf
open PySem PySem.Spec PyProof.Rows L2 Evl
local macro_rules | `(tactic| walk_at "ix") => `(tactic| first | (with_reducible exact .here) | (with_reducible apply Ix.there; walk_at "ix"))
local macro_rules | `(tactic| walk_at "loc") => `(tactic| (refine loc_of ?_; kernel_rfl))
local macro_rules | `(tactic| walk_at "hk") => `(tactic| exact Nat.le_of_ble_eq_true rfl)
local macro_rules | `(tactic| walk_at "rel") => `(tactic| first | exact ⟨_, rfl, rfl⟩ | exact ⟨_, _, rfl, rfl⟩ | exact ⟨_, _, _, rfl, rfl⟩ | exact ⟨_, rfl, by assumption, rfl⟩ | exact ⟨_, _, rfl, by assumption, rfl⟩ | exact ⟨_, _, rfl, by assumption, by assumption, rfl⟩)
local macro_rules | `(tactic| walk_at "sw") => `(tactic| (intro env h; first | rfl | (cases env; cases h; rfl)))
/-- an expression, its side questions -/
local macro_rules | `(tactic| walk_at "bb") => `(tactic| first
  | ((with_reducible apply b_vi) <;> first | ((with_reducible show Ix _ _ _); walk_at "ix") | ((with_reducible show visB _ _ = true); kernel_rfl) | ((with_reducible show okN _ = true); kernel_rfl) | rfl)
  | ((with_reducible apply b_int) <;> walk_at "bb")
  | ((with_reducible apply b_bool) <;> walk_at "bb")
  | ((with_reducible apply b_non) <;> walk_at "bb")
  | ((with_reducible apply b_str) <;> walk_at "bb")
  | ((with_reducible apply b_add) <;> walk_at "bb")
  | ((with_reducible apply b_sub) <;> walk_at "bb")
  | ((with_reducible apply b_mul) <;> walk_at "bb")
  | ((with_reducible apply b_mod) <;> walk_at "bb")
  | ((with_reducible apply b_fdiv) <;> walk_at "bb")
  | ((with_reducible apply b_neg) <;> walk_at "bb")
  | ((with_reducible apply b_pow) <;> walk_at "bb")
  | ((with_reducible apply b_tup) <;> walk_at "bb")
  | ((with_reducible apply b_ixT) <;> walk_at "bb")
  | ((with_reducible apply b_ixL) <;> walk_at "bb")
  | ((with_reducible apply b_abs) <;> walk_at "bb")
  | ((with_reducible apply b_lenT) <;> walk_at "bb")
  | ((with_reducible apply b_lenL) <;> walk_at "bb")
  | ((with_reducible apply b_max2) <;> walk_at "bb")
  | ((with_reducible apply b_intI) <;> walk_at "bb")
  | ((with_reducible apply b_intB) <;> walk_at "bb")
  | ((with_reducible apply b_tupleL) <;> walk_at "bb")
  | ((with_reducible apply b_all) <;> walk_at "bb")
  | ((with_reducible apply b_sum) <;> walk_at "bb")
  | ((with_reducible apply b_if) <;> walk_at "bb")
  | ((with_reducible apply b_and) <;> walk_at "bb")
  | ((with_reducible apply b_or) <;> walk_at "bb")
  | ((with_reducible apply b_not) <;> walk_at "bb")
  | ((with_reducible apply b_one) <;> walk_at "bb")
  | ((with_reducible apply b_cmp) <;> walk_at "bb")
  | ((with_reducible apply ba_nil) <;> walk_at "bb")
  | ((with_reducible apply ba_cons) <;> walk_at "bb")
  | ((with_reducible apply b_callI) <;> walk_at "bb")
  | ((with_reducible apply bt_cmp) <;> walk_at "bb")
  | ((with_reducible apply bt_not) <;> walk_at "bb")
  | ((with_reducible show IsG _ _); kernel_rfl)
  | ((with_reducible show okN _ = true); kernel_rfl)
  | (with_reducible assumption)
  | (with_reducible exact CmpD.gt _ _)
  | (with_reducible exact CmpD.lt _ _)
  | (with_reducible exact CmpD.ge _ _)
  | (with_reducible exact CmpD.le _ _)
  | (with_reducible exact CmpD.eqI _ _)
  | (with_reducible exact CmpD.neI _ _)
  | ((with_reducible show _ = _); rfl)
  | ((with_reducible show (_ : Nat) ≤ _); first | walk_at "hk" | decide)
  | ((with_reducible show (0 : Int) < _); omega)
  | (intro _; rfl)
  | (intro _ _; rfl)
  | walk_at "rel")
section
variable {P : Program} {w : World} {K : PySem.W.Frag} {mg : Str → Option Value} {base : Heap}
def preZeros (cs ds : List PyData) : Prop := ∃ N : Nat, N ≤ 99000 ∧ Cn N cs ∧ ds = []
def postZeros (cs ds cs' : List PyData) (d : PyData) : Prop := (∀ N, Cn N cs → Cn (N + 30) cs') ∧ ∃ (c0 : Rat) (L : List Fa), d = .tuple [pq (mkp c0 L), .list ((zsOf L).map zd)] ∧ cok c0 ∧ GL L 9 2 1
abbrev DZeros (P : Program) (w : World) (K : PySem.W.Frag) (mg : Str → Option Value) (base : Heap) := Def P w K mg base "_law_zeros" ["_law_counter_here"] 36 (spE K 1 preZeros postZeros)
/-- what the products need -/
def PdAll : Prop := ∀ c L f, Good c (L ++ [f]) → PdOk (mkp c L) (fpoly f)
theorem range_get {n : Nat} {i : Nat} {d : PyData} (h : ((List.range n).map fun k => PyData.int (k : Nat))[i]? = some d) : i < n ∧ d = .int (i : Nat) := by
  rw [List.getElem?_map, Option.map_eq_some_iff] at h
  obtain ⟨k, hk, rfl⟩ := h
  obtain ⟨h1, h2⟩ := List.getElem?_eq_some_iff.mp hk
  rw [List.length_range] at h1
  rw [List.getElem_range] at h2
  exact ⟨h1, by rw [h2]⟩
theorem zadd_data (zs : List Zr) (r : Rat) : zs.map zd ++ (List.replicate (if (!decide (Zr.rat r ∈ zs)) = true then (1 : Int) else 0).toNat [PyData.tuple [fr r, .int 0]]).flatten = (zadd zs (.lin r)).map zd := by
  simp only [zadd]
  by_cases h : Zr.rat r ∈ zs
  · rw [if_pos h]
    simp [h]
  · rw [if_neg h]
    simp [h, zd]
theorem zsq_data (zs : List Zr) (k : Int) : zs.map zd ++ lcRes [Zr.root 1 k, Zr.root (-1) k] (fun z => !decide (z ∈ zs)) zd = (zadd zs (.sq k)).map zd := by
  simp only [zadd]
  rw [List.map_append]
  unfold lcRes
  congr 2
  exact List.filter_congr fun z _ => by simp
set_option maxHeartbeats 1000000 in
theorem ok_l_zeros {f : Addr} {fd : FuncData} (F : Fun K "_law_zeros" "_law_zeros" sLZeros f fd) (hg : mg "_law_zeros" = some (.ref f)) (hb : Binds K fd ["_law_counter_here"] []) (ba : Bas P mg base) (hPd : PdAll) (D1 : DTally P w K mg base) (D2 : DPick P w K mg base) (D3 : DLLow P w K mg base) (D4 : DLProduct P w K mg base) : DZeros P w K mg base := by
  refine fn_E F scLZeros hg hb ba (by decide) rfl fun c cs ds hR _ => ?_
  obtain ⟨N, hN, hc, rfl⟩ := hR
  have B0 := ba.b0
  show R _ [.adr c, .any, .any, .any, .any, .any, .any, .any] [(c, cs)] _ _ _
  -- the third part
  have part3 : ∀ (c0 : Rat) (L : List Fa) (cs3 : List PyData) (s3 s4 s5 s6 : SS), cok c0 → GL L 9 2 0 → (∀ N, Cn N cs → Cn (N + 20) cs3) →
      R (stc P w K mg base ["_law_counter_here", "_law_made", "_law_zeros_here", "_law_turn", "_law_zero", "_law_lap", "_law_square", "_law_pair"] sLZeros 35) [.adr c, .dat (pq (mkp c0 L)), .dat (.list ((zsOf L).map zd)), s3, s4, s5, s6, .any] [(c, cs3)] ((defBody sLZeros).drop 3) (fun _ _ => False) (fun d' ow' => ∃ cs', ow' = [(c, cs')] ∧ postZeros cs [] cs' d') := fun c0 L cs3 s3 s4 s5 s6 hc0 hL hcs => by
    refine r_forE (bie_range B0 (by kernel_rfl) (fun _ => rfl) (be_mono (be_call D2 (by walk_at "hk") (by kernel_rfl) (i := 0) (ds := [.list [.int 0, .int 0, .int 1]]) rfl rfl (vis_of (by kernel_rfl)) (ba_cons (bl_lst (by walk_at "bb") (Nat.le_of_ble_eq_true rfl)).toB ba_nil (fun _ => rfl)) rfl ⟨N + 20, _, by omega, hcs N hc, rfl, by simp, by simp⟩ (fun cs' d hp => hp) (fun _ => rfl) (fun _ => rfl) (by kernel_rfl) (by kernel_rfl)) fun cs1 d hp => ?_)) (fun _ _ => rfl)
    obtain ⟨h1, h2⟩ := hp
    have hd := h2 _ rfl
    have hn : ∃ n : Nat, d = .int n ∧ n ≤ 1 := by
      simp only [List.mem_cons, List.not_mem_nil, or_false] at hd
      rcases hd with rfl | rfl | rfl
      · exact ⟨0, rfl, by omega⟩
      · exact ⟨0, rfl, by omega⟩
      · exact ⟨1, rfl, by omega⟩
    obtain ⟨n, rfl, hn⟩ := hn
    refine ⟨n, rfl, by omega, by omega, fun i ss ow => ∃ L' cs' s3 s4 s5 s6, ss = [.adr c, .dat (pq (mkp c0 L')), .dat (.list ((zsOf L').map zd)), s3, s4, s5, s6, .any] ∧ ow = [(c, cs')] ∧ GL L' 9 2 i ∧ (∀ N, Cn N cs → Cn (N + 21 + i) cs'), ⟨L, cs1, s3, s4, s5, s6, rfl, rfl, hL, fun M hM => h1 _ (hcs M hM)⟩, fun i ss ow h => ?_, fun i d ss ow hd hI => ?_, fun ss ow hI => ?_⟩
    · obtain ⟨L', cs', _, _, _, _, _, rfl, _⟩ := h
      rfl
    · obtain ⟨L', cs', s3, s4, s5, s6, rfl, rfl, hL', hcs'⟩ := hI
      obtain ⟨hin, rfl⟩ := range_get hd
      refine ⟨_, _, bg_name (i := 3) rfl (by walk_at "loc"), ?_⟩
      show R _ [.adr c, .dat (pq (mkp c0 L')), .dat (.list ((zsOf L').map zd)), .dat (.int (i : Nat)), s4, s5, s6, .any] [(c, cs')] _ _ _
      refine r_setE (i := 1) rfl (by walk_at "loc") (be_callR D4 (by walk_at "hk") (by kernel_rfl) (bae_cons (be_pure (d := pq (mkp c0 L')) (by walk_at "bb") (bae_cons (be_mono (be_call D2 (by walk_at "hk") (by kernel_rfl) (i := 0) (ds := [.list [pq (fpoly .qa), pq (fpoly .qb)]]) rfl rfl (vis_of (by kernel_rfl)) (ba_cons (B.cast (d := .list [.tuple [.tuple [.int 1, .int 1], .tuple [.int 1, .int 1], .tuple [.int 1, .int 1]], .tuple [.tuple [.int 1, .int 4], .tuple [.int 0, .int 1], .tuple [.int 1, .int 1]]]) (bl_lst (by walk_at "bb") (Nat.le_of_ble_eq_true rfl)).toB (by rw [pq_qa, pq_qb])) ba_nil (fun _ => rfl)) rfl ⟨N + 21 + i, _, by omega, hcs' N hc, rfl, by simp, by simp⟩ (fun cs' d hp => hp) (fun _ => rfl) (fun _ => rfl) (by kernel_rfl) (by kernel_rfl)) fun cs5 d hp => ?_) (fun _ => rfl))) (fun _ => rfl)) (fun _ => rfl) (fun _ => rfl) (by kernel_rfl)) (by walk_at "sw")
      obtain ⟨h9, h10⟩ := hp
      have hd := h10 _ rfl
      have hf : ∃ f : Fa, d = pq (fpoly f) ∧ (f = .qa ∨ f = .qb) := by
        rcases List.mem_cons.mp hd with h | h
        · exact ⟨.qa, h, .inl rfl⟩
        · exact ⟨.qb, List.mem_singleton.mp h, .inr rfl⟩
      obtain ⟨fa, rfl, hfa⟩ := hf
      have hG := hL'.q hfa
      have hz : zsOf (L' ++ [fa]) = zsOf L' := by
        rw [zsOf_snoc]
        rcases hfa with rfl | rfl <;> rfl
      refine bae_nil ⟨rfl, pq (mkp c0 (L' ++ [fa])), ⟨_, _, rfl, hPd _ _ _ (hG.good hc0 (by omega) (by omega) (by omega)), by rw [mkp_snoc]⟩, r_nil ⟨L' ++ [fa], cs5, .dat (.int (i : Nat)), s4, s5, s6, ?_, rfl, hG, fun M hM => h9 _ (hcs' M hM)⟩⟩
      rw [hz]
      rfl
    · obtain ⟨L', cs', s3, s4, s5, s6, rfl, rfl, hL', hcs'⟩ := hI
      rw [List.length_map, List.length_range, Int.toNat_natCast] at hL' hcs'
      refine r_ret (d := .tuple [pq (mkp c0 L'), .list ((zsOf L').map zd)]) (by walk_at "bb") ⟨cs', rfl, fun M hM => (hcs' M hM).mono (by omega), c0, L', rfl, hc0, hL'.mono (by omega) (by omega) (by omega)⟩
  -- the second part
  have part2 : ∀ (c0 : Rat) (L : List Fa) (cs3 : List PyData) (s3 s4 s5 s6 : SS), cok c0 → GL L 9 0 0 → (∀ N, Cn N cs → Cn (N + 12) cs3) →
      R (stc P w K mg base ["_law_counter_here", "_law_made", "_law_zeros_here", "_law_turn", "_law_zero", "_law_lap", "_law_square", "_law_pair"] sLZeros 35) [.adr c, .dat (pq (mkp c0 L)), .dat (.list ((zsOf L).map zd)), s3, s4, s5, s6, .any] [(c, cs3)] ((defBody sLZeros).drop 2) (fun _ _ => False) (fun d' ow' => ∃ cs', ow' = [(c, cs')] ∧ postZeros cs [] cs' d') := fun c0 L cs3 s3 s4 s5 s6 hc0 hL hcs => by
    refine r_forE (bie_range B0 (by kernel_rfl) (fun _ => rfl) (be_mono (be_call D2 (by walk_at "hk") (by kernel_rfl) (i := 0) (ds := [.list [.int 0, .int 0, .int 1, .int 2]]) rfl rfl (vis_of (by kernel_rfl)) (ba_cons (bl_lst (by walk_at "bb") (Nat.le_of_ble_eq_true rfl)).toB ba_nil (fun _ => rfl)) rfl ⟨N + 12, _, by omega, hcs N hc, rfl, by simp, by simp⟩ (fun cs' d hp => hp) (fun _ => rfl) (fun _ => rfl) (by kernel_rfl) (by kernel_rfl)) fun cs1 d hp => ?_)) (fun _ _ => rfl)
    obtain ⟨h1, h2⟩ := hp
    have hd := h2 _ rfl
    have hn : ∃ n : Nat, d = .int n ∧ n ≤ 2 := by
      simp only [List.mem_cons, List.not_mem_nil, or_false] at hd
      rcases hd with rfl | rfl | rfl | rfl
      · exact ⟨0, rfl, by omega⟩
      · exact ⟨0, rfl, by omega⟩
      · exact ⟨1, rfl, by omega⟩
      · exact ⟨2, rfl, by omega⟩
    obtain ⟨n, rfl, hn⟩ := hn
    refine ⟨n, rfl, by omega, by omega, fun i ss ow => ∃ L' cs' s3 s4 s5 s6, ss = [.adr c, .dat (pq (mkp c0 L')), .dat (.list ((zsOf L').map zd)), s3, s4, s5, s6, .any] ∧ ow = [(c, cs')] ∧ GL L' 9 i 0 ∧ (∀ N, Cn N cs → Cn (N + 13 + i) cs'), ⟨L, cs1, s3, s4, s5, s6, rfl, rfl, hL, fun M hM => h1 _ (hcs M hM)⟩, fun i ss ow h => ?_, fun i d ss ow hd hI => ?_, fun ss ow hI => ?_⟩
    · obtain ⟨L', cs', _, _, _, _, _, rfl, _⟩ := h
      rfl
    · obtain ⟨L', cs', s3, s4, s5, s6, rfl, rfl, hL', hcs'⟩ := hI
      obtain ⟨hin, rfl⟩ := range_get hd
      rw [Int.toNat_natCast] at hin
      refine ⟨_, _, bg_name (i := 3) rfl (by walk_at "loc"), ?_⟩
      show R _ [.adr c, .dat (pq (mkp c0 L')), .dat (.list ((zsOf L').map zd)), .dat (.int (i : Nat)), s4, s5, s6, .any] [(c, cs')] _ _ _
      refine r_setE (i := 6) rfl (by walk_at "loc") (be_mono (be_call D2 (by walk_at "hk") (by kernel_rfl) (i := 0) (ds := [.list [.int 2, .int 3, .int 5, .int 7, .int 10]]) rfl rfl (vis_of (by kernel_rfl)) (ba_cons (bl_lst (by walk_at "bb") (Nat.le_of_ble_eq_true rfl)).toB ba_nil (fun _ => rfl)) rfl ⟨N + 13 + i, _, by omega, hcs' N hc, rfl, by simp, by simp⟩ (fun cs' d hp => hp) (fun _ => rfl) (fun _ => rfl) (by kernel_rfl) (by kernel_rfl)) fun cs5 d hp => ?_) (by walk_at "sw")
      obtain ⟨h9, h10⟩ := hp
      have hd := h10 _ rfl
      have hf : ∃ k : Int, d = .int k ∧ fok (.sq k) := by
        simp only [List.mem_cons, List.not_mem_nil, or_false] at hd
        rcases hd with rfl | rfl | rfl | rfl | rfl
        · exact ⟨2, rfl, .inl rfl⟩
        · exact ⟨3, rfl, .inr (.inl rfl)⟩
        · exact ⟨5, rfl, .inr (.inr (.inl rfl))⟩
        · exact ⟨7, rfl, .inr (.inr (.inr (.inl rfl)))⟩
        · exact ⟨10, rfl, .inr (.inr (.inr (.inr rfl)))⟩
      obtain ⟨k, rfl, hk⟩ := hf
      have hG := hL'.sq hk
      show R _ [.adr c, .dat (pq (mkp c0 L')), .dat (.list ((zsOf L').map zd)), .dat (.int (i : Nat)), s4, s5, .dat (.int k), .any] [(c, cs5)] _ _ _
      refine r_set (i := 1) (d := pq (mkp c0 (L' ++ [.sq k]))) rfl (by walk_at "loc") (b_callI D4 (by walk_at "hk") (by kernel_rfl) (ds := [pq (mkp c0 L'), pq (fpoly (.sq k))]) (ba_cons (by walk_at "bb") (ba_cons (B.cast (d := .tuple [.tuple [.int (-k), .int 1], .tuple [.int 0, .int 1], .tuple [.int 1, .int 1]]) (by walk_at "bb") (pq_sq k).symm) ba_nil (fun _ => rfl)) (fun _ => rfl)) ⟨_, _, rfl, hPd _ _ _ (hG.good hc0 (by omega) (by omega) (by omega)), by rw [mkp_snoc]⟩ rfl (fun _ => rfl) (fun _ => rfl) (by kernel_rfl)) (by walk_at "sw") ?_
      show R _ [.adr c, .dat (pq (mkp c0 (L' ++ [.sq k]))), .dat (.list ((zsOf L').map zd)), .dat (.int (i : Nat)), s4, s5, .dat (.int k), .any] [(c, cs5)] _ _ _
      have hzl := hL'.zlen
      refine r_set (i := 2) (d := .list ((zsOf (L' ++ [.sq k])).map zd)) rfl (by walk_at "loc") (B.cast (bl_cat (ds1 := (zsOf L').map zd) (by walk_at "bb") (bl_lc (as := [Zr.root 1 k, Zr.root (-1) k]) (g := zd) (f := fun z => !decide (z ∈ zsOf L')) (v := zd) [("_law_pair", 7)] (by kernel_rfl) (bi_tup (ds := [zd (Zr.root 1 k), zd (Zr.root (-1) k)]) (b_tup (by walk_at "bb") (Nat.le_of_ble_eq_true rfl))) (Nat.le_of_ble_eq_true rfl) (fun z hz => ?_) (fun _ _ => rfl)).toB ?_).toB (by rw [zsq_data, zsOf_snoc])) (by walk_at "sw") (r_nil ⟨L' ++ [.sq k], cs5, .dat (.int (i : Nat)), s4, s5, .dat (.int k), rfl, rfl, hG, fun M hM => h9 _ (hcs' M hM)⟩)
      · refine ⟨_, [7], by simp, bg_name (i := 7) rfl (by walk_at "loc"), bts_one ?_, fun _ => ?_⟩
        · show BT _ _ _ _ (!decide (z ∈ zsOf L'))
          rw [← any_zd]
          refine bt_cmp (.notInD (zd z) _ (shaped_zd z) (shaped_zds _)) ?_ ?_ rfl
          · show B _ [.adr c, .dat (pq (mkp c0 (L' ++ [.sq k]))), .dat (.list ((zsOf L').map zd)), .dat (.int (i : Nat)), s4, s5, .dat (.int k), .dat (zd z)] _ _ (zd z)
            walk_at "bb"
          · show B _ [.adr c, .dat (pq (mkp c0 (L' ++ [.sq k]))), .dat (.list ((zsOf L').map zd)), .dat (.int (i : Nat)), s4, s5, .dat (.int k), .dat (zd z)] _ _ (.list ((zsOf L').map zd))
            walk_at "bb"
        · show B _ [.adr c, .dat (pq (mkp c0 (L' ++ [.sq k]))), .dat (.list ((zsOf L').map zd)), .dat (.int (i : Nat)), s4, s5, .dat (.int k), .dat (zd z)] _ _ (zd z)
          walk_at "bb"
      · have := List.length_filter_le (fun z => !decide (z ∈ zsOf L')) [Zr.root 1 k, Zr.root (-1) k]
        unfold lcRes
        simp at this ⊢
        omega
    · obtain ⟨L', cs', s3, s4, s5, s6, rfl, rfl, hL', hcs'⟩ := hI
      rw [List.length_map, List.length_range, Int.toNat_natCast] at hL' hcs'
      exact part3 c0 L' cs' s3 s4 s5 s6 hc0 (hL'.mono (by omega) (by omega) (by omega)) fun M hM => (hcs' M hM).mono (by omega)
  -- the first part
  refine r_asgE (be_tup (bae_cons (be_tup (bae_cons (be_callR D3 (by walk_at "hk") (by kernel_rfl) (bae_cons (be_mono (be_call D2 (by walk_at "hk") (by kernel_rfl) (i := 0) (ds := [.list [.int 1, .int (-1), .int 3, .int (-7)]]) rfl rfl (vis_of (by kernel_rfl)) (ba_cons (bl_lst (by walk_at "bb") (Nat.le_of_ble_eq_true rfl)).toB ba_nil (fun _ => rfl)) rfl ⟨N, _, by omega, hc, rfl, by simp, by simp⟩ (fun cs' d hp => hp) (fun _ => rfl) (fun _ => rfl) (by kernel_rfl) (by kernel_rfl)) fun cs1 d1 hp1 => ?_) (fun _ => rfl)) (fun _ => rfl) (fun _ => rfl) (by kernel_rfl)) (fun _ => rfl))) (fun _ => rfl))) (by walk_at "sw") (by walk_at "sw") (fun _ => rfl)
  obtain ⟨p1, p2⟩ := hp1
  have hcn1 := p1 N hc
  refine bae_cons (be_mono (be_call D2 (by walk_at "hk") (by kernel_rfl) (i := 0) (ds := [.list [.int 1, .int 2, .int 5]]) rfl rfl (vis_of (by kernel_rfl)) (ba_cons (bl_lst (by walk_at "bb") (Nat.le_of_ble_eq_true rfl)).toB ba_nil (fun _ => rfl)) rfl ⟨N + 1, _, by omega, hcn1, rfl, by simp, by simp⟩ (fun cs' d hp => hp) (fun _ => rfl) (fun _ => rfl) (by kernel_rfl) (by kernel_rfl)) fun cs2 d2 hp2 => ?_) (fun _ => rfl)
  obtain ⟨p3, p4⟩ := hp2
  have hcn2 := p3 _ hcn1
  have hda := p2 _ rfl
  have hdb := p4 _ rfl
  have ha : ∃ a : Int, d1 = .int a ∧ (a = 1 ∨ a = -1 ∨ a = 3 ∨ a = -7 ∨ a = 7) := by
    simp only [List.mem_cons, List.not_mem_nil, or_false] at hda
    rcases hda with rfl | rfl | rfl | rfl <;> exact ⟨_, rfl, by decide⟩
  have hb' : ∃ b : Int, d2 = .int b ∧ (b = 1 ∨ b = 2 ∨ b = 5) := by
    simp only [List.mem_cons, List.not_mem_nil, or_false] at hdb
    rcases hdb with rfl | rfl | rfl <;> exact ⟨_, rfl, by decide⟩
  obtain ⟨a, rfl, ha⟩ := ha
  obtain ⟨b, rfl, hbb⟩ := hb'
  have hc0 : cok (Rat.divInt a b) := ⟨a, b, rfl, ha, hbb⟩
  refine bae_nil ⟨rfl, fr (Rat.divInt a b), ⟨_, _, rfl, by omega, rfl⟩, bae_nil ⟨by simp, bae_cons (be_pure (d := .list []) (bl_lst ba_nil (Nat.zero_le _)).toB (bae_nil ⟨by simp, _, _, bg_pair (i := 1) (j := 2) rfl (by walk_at "loc") rfl (by walk_at "loc"), ?_⟩)) (fun _ => rfl)⟩⟩
  generalize Rat.divInt a b = c0 at hc0
  show R _ [.adr c, .dat (pq (mkp c0 [])), .dat (.list ((zsOf []).map zd)), .any, .any, .any, .any, .any] [(c, cs2)] _ _ _
  refine r_forE (bie_range B0 (by kernel_rfl) (fun _ => rfl) (be_mono (be_call D1 (by walk_at "hk") (by kernel_rfl) (i := 0) (ds := [.int 4]) rfl rfl (vis_of (by kernel_rfl)) (by walk_at "bb") rfl ⟨N + 1 + 1, 4, by omega, hcn2, rfl, by decide⟩ (fun cs' d hp => hp) (fun _ => rfl) (fun _ => rfl) (by kernel_rfl) (by kernel_rfl)) fun cs3 d hp => ?_)) (fun _ _ => rfl)
  obtain ⟨p5, p6⟩ := hp
  obtain ⟨n, rfl, hn0, hn1⟩ := p6 _ rfl
  refine ⟨n, rfl, by omega, by omega, fun i ss ow => ∃ L' cs' s3 s4 s5, ss = [.adr c, .dat (pq (mkp c0 L')), .dat (.list ((zsOf L').map zd)), s3, s4, s5, .any, .any] ∧ ow = [(c, cs')] ∧ GL L' (3 * i) 0 0 ∧ (∀ N, Cn N cs → Cn (N + 3 + 3 * i) cs'), ⟨[], cs3, .any, .any, .any, rfl, rfl, GL.nil, fun M hM => p5 _ (p3 _ (p1 _ hM))⟩, fun i ss ow h => ?_, fun i d ss ow hd hI => ?_, fun ss ow hI => ?_⟩
  · obtain ⟨L', cs', _, _, _, _, rfl, _⟩ := h
    rfl
  · obtain ⟨L', cs', s3, s4, s5, rfl, rfl, hL', hcs'⟩ := hI
    obtain ⟨hin, rfl⟩ := range_get hd
    have hi3 : i < 3 := by omega
    refine ⟨_, _, bg_name (i := 3) rfl (by walk_at "loc"), ?_⟩
    show R _ [.adr c, .dat (pq (mkp c0 L')), .dat (.list ((zsOf L').map zd)), .dat (.int (i : Nat)), s4, s5, .any, .any] [(c, cs')] _ _ _
    refine r_setE (i := 4) rfl (by walk_at "loc") (be_callR D3 (by walk_at "hk") (by kernel_rfl) (bae_cons (be_sub (be_mono (be_call D1 (by walk_at "hk") (by kernel_rfl) (i := 0) (ds := [.int 25]) rfl rfl (vis_of (by kernel_rfl)) (by walk_at "bb") rfl ⟨N + 3 + 3 * i, 25, by omega, hcs' N hc, rfl, by decide⟩ (fun cs' d hp => hp) (fun _ => rfl) (fun _ => rfl) (by kernel_rfl) (by kernel_rfl)) fun cs4 d hp => ?_)) (fun _ => rfl)) (fun _ => rfl) (fun _ => rfl) (by kernel_rfl)) (by walk_at "sw")
    obtain ⟨q1, q2⟩ := hp
    obtain ⟨k, rfl, hk0, hk1⟩ := q2 _ rfl
    refine ⟨k, rfl, be_pure (d := .int 12) (by walk_at "bb") ⟨12, rfl, ?_⟩⟩
    refine bae_cons (be_mono (be_call D2 (by walk_at "hk") (by kernel_rfl) (i := 0) (ds := [.list [.int 1, .int 1, .int 2, .int 3, .int 7]]) rfl rfl (vis_of (by kernel_rfl)) (ba_cons (bl_lst (by walk_at "bb") (Nat.le_of_ble_eq_true rfl)).toB ba_nil (fun _ => rfl)) rfl ⟨N + 3 + 3 * i + 1, _, by omega, q1 _ (hcs' N hc), rfl, by simp, by simp⟩ (fun cs' d hp => hp) (fun _ => rfl) (fun _ => rfl) (by kernel_rfl) (by kernel_rfl)) fun cs5 d hp => ?_) (fun _ => rfl)
    obtain ⟨q3, q4⟩ := hp
    have hd := q4 _ rfl
    have hj : ∃ j : Int, d = .int j ∧ (j = 1 ∨ j = 2 ∨ j = 3 ∨ j = 7) := by
      simp only [List.mem_cons, List.not_mem_nil, or_false] at hd
      rcases hd with rfl | rfl | rfl | rfl | rfl <;> exact ⟨_, rfl, by decide⟩
    obtain ⟨j, rfl, hj⟩ := hj
    have hfok : fok (.lin (Rat.divInt (k - 12) j)) := ⟨k - 12, j, rfl, by omega, by omega, hj⟩
    refine bae_nil ⟨rfl, fr (Rat.divInt (k - 12) j), ⟨_, _, rfl, by omega, rfl⟩, ?_⟩
    generalize Rat.divInt (k - 12) j = r at hfok
    show R _ [.adr c, .dat (pq (mkp c0 L')), .dat (.list ((zsOf L').map zd)), .dat (.int (i : Nat)), .dat (fr r), s5, .any, .any] [(c, cs5)] _ _ _
    refine r_forE (bie_range B0 (by kernel_rfl) (fun _ => rfl) (be_mono (be_call D2 (by walk_at "hk") (by kernel_rfl) (i := 0) (ds := [.list [.int 1, .int 1, .int 2, .int 3]]) rfl rfl (vis_of (by kernel_rfl)) (ba_cons (bl_lst (by walk_at "bb") (Nat.le_of_ble_eq_true rfl)).toB ba_nil (fun _ => rfl)) rfl ⟨N + 3 + 3 * i + 1 + 1, _, by omega, q3 _ (q1 _ (hcs' N hc)), rfl, by simp, by simp⟩ (fun cs' d hp => hp) (fun _ => rfl) (fun _ => rfl) (by kernel_rfl) (by kernel_rfl)) fun cs6 d hp => ?_)) (fun _ _ => rfl)
    obtain ⟨q5, q6⟩ := hp
    have hd := q6 _ rfl
    have hm : ∃ m : Nat, d = .int ((m + 1 : Nat) : Int) ∧ m ≤ 2 := by
      simp only [List.mem_cons, List.not_mem_nil, or_false] at hd
      rcases hd with rfl | rfl | rfl | rfl
      · exact ⟨0, rfl, by omega⟩
      · exact ⟨0, rfl, by omega⟩
      · exact ⟨1, rfl, by omega⟩
      · exact ⟨2, rfl, by omega⟩
    obtain ⟨m, rfl, hm⟩ := hm
    refine ⟨_, rfl, by omega, by omega, fun t ss ow => ∃ s5, ss = [.adr c, .dat (pq (mkp c0 (L' ++ List.replicate t (.lin r)))), .dat (.list ((zsOf L').map zd)), .dat (.int (i : Nat)), .dat (fr r), s5, .any, .any] ∧ ow = [(c, cs6)] ∧ GL (L' ++ List.replicate t (.lin r)) (3 * i + t) 0 0, ⟨s5, by rw [List.replicate_zero, List.append_nil], rfl, by rw [List.replicate_zero, List.append_nil]; exact hL'⟩, fun t ss ow h => ?_, fun t d ss ow hd hI => ?_, fun ss ow hI => ?_⟩
    · obtain ⟨_, _, rfl, _⟩ := h
      rfl
    · obtain ⟨s5, rfl, rfl, hGt⟩ := hI
      obtain ⟨htn, rfl⟩ := range_get hd
      rw [Int.toNat_natCast] at htn
      have hG := hGt.lin hfok
      refine ⟨_, _, bg_name (i := 5) rfl (by walk_at "loc"), ?_⟩
      generalize hLt : L' ++ List.replicate t (.lin r) = Lt at hG
      have hL2 : L' ++ List.replicate (t + 1) (.lin r) = Lt ++ [.lin r] := by rw [← hLt, List.append_assoc, List.replicate_succ']
      show R _ [.adr c, .dat (pq (mkp c0 Lt)), .dat (.list ((zsOf L').map zd)), .dat (.int (i : Nat)), .dat (fr r), .dat (.int (t : Nat)), .any, .any] [(c, cs6)] _ _ _
      refine r_set (i := 1) (d := pq (mkp c0 (Lt ++ [.lin r]))) rfl (by walk_at "loc") (b_callI D4 (by walk_at "hk") (by kernel_rfl) (ds := [pq (mkp c0 Lt), pq (fpoly (.lin r))]) (ba_cons (by walk_at "bb") (ba_cons (B.cast (d := .tuple [.tuple [.int (-r.num), .int r.den], .tuple [.int 1, .int 1]]) (by walk_at "bb") (pq_lin r).symm) ba_nil (fun _ => rfl)) (fun _ => rfl)) ⟨_, _, rfl, hPd _ _ _ (hG.good hc0 (by omega) (by omega) (by omega)), by rw [mkp_snoc]⟩ rfl (fun _ => rfl) (fun _ => rfl) (by kernel_rfl)) (by walk_at "sw") (r_nil ⟨.dat (.int (t : Nat)), ?_, rfl, by rw [hL2]; exact hG⟩)
      rw [hL2]
      rfl
    · obtain ⟨s5, rfl, rfl, hGt⟩ := hI
      rw [List.length_map, List.length_range, Int.toNat_natCast] at hGt ⊢
      generalize hLt : L' ++ List.replicate (m + 1) (.lin r) = Lt at hGt ⊢
      have hzt : zsOf Lt = zadd (zsOf L') (.lin r) := by rw [← hLt]; exact zsOf_rep L' r m
      have hzl := hL'.zlen
      refine r_set (i := 2) (d := .list ((zsOf Lt).map zd)) rfl (by walk_at "loc") (B.cast (bl_cat (ds1 := (zsOf L').map zd) (by walk_at "bb") (bl_rep (bl_lst (by walk_at "bb") (Nat.le_of_ble_eq_true rfl)) (b_intB B0 (fun _ => rfl) rfl (t := !decide (Zr.rat r ∈ zsOf L')) ?_) (by split <;> decide) (Nat.le_of_ble_eq_true rfl)).toB ?_).toB (by rw [hzt]; exact congrArg PyData.list (zadd_data (zsOf L') r))) (by walk_at "sw") (r_nil ⟨Lt, cs6, .dat (.int (i : Nat)), .dat (fr r), s5, rfl, rfl, hGt.mono (by omega) (by omega) (by omega), fun M hM => (q5 _ (q3 _ (q1 _ (hcs' M hM)))).mono (by omega)⟩)
      · rw [← any_zd]
        exact b_cmp (.notInD (zd (.rat r)) _ (shaped_zd _) (shaped_zds _)) (by walk_at "bb") (by walk_at "bb") rfl
      · rw [List.length_map]
        split <;> simp <;> omega
  · obtain ⟨L', cs', s3, s4, s5, rfl, rfl, hL', hcs'⟩ := hI
    rw [List.length_map, List.length_range] at hL' hcs'
    exact part2 c0 L' cs' s3 s4 s5 .any hc0 (hL'.mono (by omega) (by omega) (by omega)) fun M hM => (hcs' M hM).mono (by omega)
end
end Mf
end

-- text L7
section
set_option Elab.async false
set_option linter.all false
set_option autoImplicit false
set_option maxRecDepth 100000
set_option maxHeartbeats 200000
namespace Mf
open PySem PySem.Spec PyProof.Rows L2 Evl
local macro_rules | `(tactic| walk_at "ix") => `(tactic| first | (with_reducible exact .here) | (with_reducible apply Ix.there; walk_at "ix"))
local macro_rules | `(tactic| walk_at "loc") => `(tactic| (refine loc_of ?_; kernel_rfl))
local macro_rules | `(tactic| walk_at "hk") => `(tactic| exact Nat.le_of_ble_eq_true rfl)
local macro_rules | `(tactic| walk_at "rel") => `(tactic| first | exact ⟨_, rfl, rfl⟩ | exact ⟨_, _, rfl, rfl⟩ | exact ⟨_, _, _, rfl, rfl⟩ | exact ⟨_, rfl, by assumption, rfl⟩ | exact ⟨_, _, rfl, by assumption, rfl⟩ | exact ⟨_, _, rfl, by assumption, by assumption, rfl⟩)
local macro_rules | `(tactic| walk_at "sw") => `(tactic| (intro env h; first | rfl | (cases env; cases h; rfl)))
/-- an expression, its side questions -/
local macro_rules | `(tactic| walk_at "bb") => `(tactic| first
  | ((with_reducible apply b_vi) <;> first | ((with_reducible show Ix _ _ _); walk_at "ix") | ((with_reducible show visB _ _ = true); kernel_rfl) | ((with_reducible show okN _ = true); kernel_rfl) | rfl)
  | ((with_reducible apply b_int) <;> walk_at "bb")
  | ((with_reducible apply b_bool) <;> walk_at "bb")
  | ((with_reducible apply b_non) <;> walk_at "bb")
  | ((with_reducible apply b_str) <;> walk_at "bb")
  | ((with_reducible apply b_add) <;> walk_at "bb")
  | ((with_reducible apply b_sub) <;> walk_at "bb")
  | ((with_reducible apply b_mul) <;> walk_at "bb")
  | ((with_reducible apply b_mod) <;> walk_at "bb")
  | ((with_reducible apply b_fdiv) <;> walk_at "bb")
  | ((with_reducible apply b_neg) <;> walk_at "bb")
  | ((with_reducible apply b_pow) <;> walk_at "bb")
  | ((with_reducible apply b_tup) <;> walk_at "bb")
  | ((with_reducible apply b_ixT) <;> walk_at "bb")
  | ((with_reducible apply b_ixL) <;> walk_at "bb")
  | ((with_reducible apply b_abs) <;> walk_at "bb")
  | ((with_reducible apply b_lenT) <;> walk_at "bb")
  | ((with_reducible apply b_lenL) <;> walk_at "bb")
  | ((with_reducible apply b_max2) <;> walk_at "bb")
  | ((with_reducible apply b_intI) <;> walk_at "bb")
  | ((with_reducible apply b_intB) <;> walk_at "bb")
  | ((with_reducible apply b_tupleL) <;> walk_at "bb")
  | ((with_reducible apply b_all) <;> walk_at "bb")
  | ((with_reducible apply b_sum) <;> walk_at "bb")
  | ((with_reducible apply b_if) <;> walk_at "bb")
  | ((with_reducible apply b_and) <;> walk_at "bb")
  | ((with_reducible apply b_or) <;> walk_at "bb")
  | ((with_reducible apply b_not) <;> walk_at "bb")
  | ((with_reducible apply b_one) <;> walk_at "bb")
  | ((with_reducible apply b_cmp) <;> walk_at "bb")
  | ((with_reducible apply ba_nil) <;> walk_at "bb")
  | ((with_reducible apply ba_cons) <;> walk_at "bb")
  | ((with_reducible apply b_callI) <;> walk_at "bb")
  | ((with_reducible apply bt_cmp) <;> walk_at "bb")
  | ((with_reducible apply bt_not) <;> walk_at "bb")
  | ((with_reducible show IsG _ _); kernel_rfl)
  | ((with_reducible show okN _ = true); kernel_rfl)
  | (with_reducible assumption)
  | (with_reducible exact CmpD.gt _ _)
  | (with_reducible exact CmpD.lt _ _)
  | (with_reducible exact CmpD.ge _ _)
  | (with_reducible exact CmpD.le _ _)
  | (with_reducible exact CmpD.eqI _ _)
  | (with_reducible exact CmpD.neI _ _)
  | ((with_reducible show _ = _); rfl)
  | ((with_reducible show (_ : Nat) ≤ _); first | walk_at "hk" | decide)
  | ((with_reducible show (0 : Int) < _); omega)
  | (intro _; rfl)
  | (intro _ _; rfl)
  | walk_at "rel")
section
variable {P : Program} {w : World} {K : PySem.W.Frag} {mg : Str → Option Value} {base : Heap}
/-- what the law says of the numbers of zeros -/
structure ZAll : Prop where
  z : ∀ (c : Rat) (L : List Fa) (lo hi : Rat), Good c L → (mkp c L).length < 19 → Sm lo → Sm hi → lo < hi → ZOk (mkp c L) lo hi ∧ trim (mkp c L) = mkp c L ∧ mkp c L ≠ [] ∧ zbetween (mkp c L) lo hi = many (zsOf L) lo hi
  len : ∀ (c : Rat) (L : List Fa), Good c L → L.countP isX = 0 → (mkp c L).length < 19
  len80 : ∀ (c : Rat) (L : List Fa), Good c L → (mkp c L).length ≤ 80
  split : ∀ (zs : List Zr) (lo mid hi : Rat), (∀ z ∈ zs, zsa z) → lo < mid → mid < hi → many zs lo mid + many zs mid hi = many zs lo hi
  all : ∀ (zs : List Zr), (∀ z ∈ zs, zsa z) → many zs (-1000) 1000 = (zs.length : Nat)
theorem zs_sa (L : List Fa) (h : ∀ f ∈ L, fok f) : ∀ z ∈ zsOf L, zsa z := by
  have key : ∀ (L : List Fa) (zs : List Zr), (∀ f ∈ L, fok f) → (∀ z ∈ zs, zsa z) → ∀ z ∈ L.foldl zadd zs, zsa z := by
    intro L
    induction L with
    | nil => intro zs _ hz; exact hz
    | cons f L ih =>
      intro zs hf hz
      rw [List.foldl_cons]
      refine ih _ (fun g hg => hf g (List.mem_cons_of_mem _ hg)) ?_
      have h0 := hf f List.mem_cons_self
      cases f with
      | lin r =>
        simp only [zadd]
        split
        · exact hz
        · intro z hm
          rcases List.mem_append.mp hm with hm | hm
          · exact hz z hm
          · rw [List.mem_singleton.mp hm]
            obtain ⟨p, q, rfl, h1, h2, h3⟩ := h0
            obtain ⟨a1, a2⟩ := divInt_le (a := p) (b := q) (by omega)
            exact ⟨by omega, by omega⟩
      | sq k =>
        simp only [zadd]
        intro z hm
        rcases List.mem_append.mp hm with hm | hm
        · exact hz z hm
        · have hk : 0 < k ∧ k ≤ 10 := by
            rcases h0 with rfl | rfl | rfl | rfl | rfl <;> decide
          have := (List.mem_filter.mp hm).1
          simp only [List.mem_cons, List.not_mem_nil, or_false] at this
          rcases this with rfl | rfl <;> exact hk
      | qa => exact hz
      | qb => exact hz
      | qc => exact hz
      | qd => exact hz
      | ng => exact hz
  exact key L [] h (by simp)
theorem zsa_ok {z : Zr} (h : zsa z) : zok z := by
  cases z with
  | rat q => exact Sb.sm (Sa.sb h)
  | root s k => exact ⟨h.1, by have := h.2; omega⟩
theorem repP_pq (l : List Rat) (h : l.length ≤ 80) : RepP (pq l) l := ⟨l.map fun q => (fr q, q), fun p hp => by
  obtain ⟨q, _, rfl⟩ := List.mem_map.mp hp
  exact RepF.fr q, .inr (by rw [List.map_map]; rfl), by rw [List.map_map]; exact (List.map_id _).symm, by rw [List.length_map]; exact h⟩
def rLaw (ds : List PyData) (d : PyData) : Prop := ∃ ns : List Int, ds = [il ns] ∧ ns.length ≤ 1000 ∧ d = .bool true
abbrev DLaw (P : Program) (w : World) (K : PySem.W.Frag) (mg : Str → Option Value) (base : Heap) := Def P w K mg base "law" ["_law_script"] 41 (spR K 1 rLaw)
theorem many_nn (zs : List Zr) (lo hi : Rat) : 0 ≤ many zs lo hi ∧ many zs lo hi ≤ zs.length := by
  unfold many
  have := List.length_filter_le (inSt lo hi) zs
  omega
theorem log_small {n : Int} (h0 : 0 ≤ n) (h : n ≤ 1000) : n.natAbs.log2 < 1920 := by
  have h1 : n.natAbs ≤ 1000 := by omega
  by_cases h2 : n.natAbs = 0
  · rw [h2]; decide
  · have : n.natAbs.log2 < 10 := (Nat.log2_lt h2).mpr (by omega)
    omega
abbrev lawN : List Str := ["_law_script", "_law_counter_here", "_law_turn", "_law_made", "_law_zeros_here", "_law_low_here", "_law_high", "_law_passed", "_law_due", "_law_middle", "_law_more", "_law_zero", "_law_again", "_law_number", "_law_each"]
theorem Sb.mid {lo hi : Rat} (h1 : Sb lo) (h2 : Sb hi) : Sm (lo + hi) ∧ Sm ((lo + hi) * (1 / 2)) := by
  obtain ⟨a1, a2⟩ := add_le (q := lo) (r := hi)
  obtain ⟨b1, b2⟩ := mul_le (q := lo + hi) (r := 1 / 2)
  rw [show (1 / 2 : Rat).num.natAbs = 1 by decide +kernel] at b1
  rw [show (1 / 2 : Rat).den = 2 by decide +kernel] at b2
  obtain ⟨c1, c2⟩ := h1
  obtain ⟨d1, d2⟩ := h2
  have e1 : lo.num.natAbs * hi.den ≤ 1000 * 30 := Nat.mul_le_mul c1 d2
  have e2 : hi.num.natAbs * lo.den ≤ 1000 * 30 := Nat.mul_le_mul d1 c2
  have e3 : lo.den * hi.den ≤ 30 * 30 := Nat.mul_le_mul c2 d2
  exact ⟨⟨by omega, by omega⟩, ⟨by omega, by omega⟩⟩
theorem mid_lt {lo hi : Rat} (h : lo < hi) : lo < (lo + hi) * (1 / 2) ∧ (lo + hi) * (1 / 2) < hi := by
  constructor <;> grind
end
end Mf
end

-- text L8
section
set_option Elab.async false
set_option linter.all false
set_option autoImplicit false
set_option maxRecDepth 100000
set_option maxHeartbeats 200000
namespace Mf
open PySem PySem.Spec PyProof.Rows L2 Evl
local macro_rules | `(tactic| walk_at "ix") => `(tactic| first | (with_reducible exact .here) | (with_reducible apply Ix.there; walk_at "ix"))
local macro_rules | `(tactic| walk_at "loc") => `(tactic| (refine loc_of ?_; kernel_rfl))
local macro_rules | `(tactic| walk_at "hk") => `(tactic| exact Nat.le_of_ble_eq_true rfl)
local macro_rules | `(tactic| walk_at "rel") => `(tactic| first | exact ⟨_, rfl, rfl⟩ | exact ⟨_, _, rfl, rfl⟩ | exact ⟨_, _, _, rfl, rfl⟩ | exact ⟨_, rfl, by assumption, rfl⟩ | exact ⟨_, _, rfl, by assumption, rfl⟩ | exact ⟨_, _, rfl, by assumption, by assumption, rfl⟩)
local macro_rules | `(tactic| walk_at "sw") => `(tactic| (intro env h; first | rfl | (cases env; cases h; rfl)))
/-- an expression, its side questions -/
local macro_rules | `(tactic| walk_at "bb") => `(tactic| first
  | ((with_reducible apply b_vi) <;> first | ((with_reducible show Ix _ _ _); walk_at "ix") | ((with_reducible show visB _ _ = true); kernel_rfl) | ((with_reducible show okN _ = true); kernel_rfl) | rfl)
  | ((with_reducible apply b_int) <;> walk_at "bb")
  | ((with_reducible apply b_bool) <;> walk_at "bb")
  | ((with_reducible apply b_non) <;> walk_at "bb")
  | ((with_reducible apply b_str) <;> walk_at "bb")
  | ((with_reducible apply b_add) <;> walk_at "bb")
  | ((with_reducible apply b_sub) <;> walk_at "bb")
  | ((with_reducible apply b_mul) <;> walk_at "bb")
  | ((with_reducible apply b_mod) <;> walk_at "bb")
  | ((with_reducible apply b_fdiv) <;> walk_at "bb")
  | ((with_reducible apply b_neg) <;> walk_at "bb")
  | ((with_reducible apply b_pow) <;> walk_at "bb")
  | ((with_reducible apply b_tup) <;> walk_at "bb")
  | ((with_reducible apply b_ixT) <;> walk_at "bb")
  | ((with_reducible apply b_ixL) <;> walk_at "bb")
  | ((with_reducible apply b_abs) <;> walk_at "bb")
  | ((with_reducible apply b_lenT) <;> walk_at "bb")
  | ((with_reducible apply b_lenL) <;> walk_at "bb")
  | ((with_reducible apply b_max2) <;> walk_at "bb")
  | ((with_reducible apply b_intI) <;> walk_at "bb")
  | ((with_reducible apply b_intB) <;> walk_at "bb")
  | ((with_reducible apply b_tupleL) <;> walk_at "bb")
  | ((with_reducible apply b_all) <;> walk_at "bb")
  | ((with_reducible apply b_sum) <;> walk_at "bb")
  | ((with_reducible apply b_if) <;> walk_at "bb")
  | ((with_reducible apply b_and) <;> walk_at "bb")
  | ((with_reducible apply b_or) <;> walk_at "bb")
  | ((with_reducible apply b_not) <;> walk_at "bb")
  | ((with_reducible apply b_one) <;> walk_at "bb")
  | ((with_reducible apply b_cmp) <;> walk_at "bb")
  | ((with_reducible apply ba_nil) <;> walk_at "bb")
  | ((with_reducible apply ba_cons) <;> walk_at "bb")
  | ((with_reducible apply b_callI) <;> walk_at "bb")
  | ((with_reducible apply bt_cmp) <;> walk_at "bb")
  | ((with_reducible apply bt_not) <;> walk_at "bb")
  | ((with_reducible show IsG _ _); kernel_rfl)
  | ((with_reducible show okN _ = true); kernel_rfl)
  | (with_reducible assumption)
  | (with_reducible exact CmpD.gt _ _)
  | (with_reducible exact CmpD.lt _ _)
  | (with_reducible exact CmpD.ge _ _)
  | (with_reducible exact CmpD.le _ _)
  | (with_reducible exact CmpD.eqI _ _)
  | (with_reducible exact CmpD.neI _ _)
  | ((with_reducible show _ = _); rfl)
  | ((with_reducible show (_ : Nat) ≤ _); first | walk_at "hk" | decide)
  | ((with_reducible show (0 : Int) < _); omega)
  | (intro _; rfl)
  | (intro _ _; rfl)
  | walk_at "rel")
section
variable {P : Program} {w : World} {K : PySem.W.Frag} {mg : Str → Option Value} {base : Heap}
theorem zin_of (Z : ZAll) {c : Rat} {L : List Fa} {lo hi : Rat} {v vl vh : PyData} (hG : Good c L) (hl : (mkp c L).length < 19) (h1 : Sm lo) (h2 : Sm hi) (h3 : lo < hi) (hv : RepP v (mkp c L)) (hvl : RepF vl lo) (hvh : RepF vh hi) : rZerosIn [v, vl, vh] (.int (many (zsOf L) lo hi)) := by
  obtain ⟨z1, z2, z3, z4⟩ := Z.z c L lo hi hG hl h1 h2 h3
  exact ⟨v, vl, vh, mkp c L, lo, hi, rfl, ⟨hv, hvl, hvh, by rw [z2]; exact z3, h1.sf, h2.sf, h3, by rw [z2]; exact z1⟩, by rw [z2, z4]⟩
theorem GL.goodX {L : List Fa} {c : Rat} {f : Fa} (h : GL L 9 2 1) (hc : cok c) (hf : isX f = true) (hf2 : isLin f = false) (hf3 : isSq f = false) (hf4 : isQ f = false) (hfo : fok f) : Good c (L ++ [f]) := by
  refine ⟨hc, fun g hm => ?_, ?_, ?_, ?_, ?_⟩
  · rcases List.mem_append.mp hm with hm | hm
    · exact h.f g hm
    · rw [List.mem_singleton.mp hm]; exact hfo
  all_goals rw [List.countP_append]
  · have := h.nl; simp [hf2]; omega
  · have := h.ns; simp [hf3]; omega
  · have := h.nq; simp [hf4]; omega
  · rw [h.nx]; simp [hf]
theorem GL.goodL {L : List Fa} {c : Rat} {r : Rat} (h : GL L 9 2 1) (hc : cok c) (hf : fok (.lin r)) : Good c (L ++ [Fa.lin r]) ∧ (L ++ [Fa.lin r]).countP isX = 0 := by
  have hG := h.lin hf
  exact ⟨hG.good hc (by omega) (by omega) (by omega), hG.nx⟩
theorem zsOf_x {L : List Fa} {f : Fa} (hf : isX f = true) : zsOf (L ++ [f]) = zsOf L := by
  rw [zsOf_snoc]
  cases f <;> first | rfl | cases hf
theorem fr_m12 : fr (Rat.divInt (-1) 2) = .tuple [.int (-1), .int 2] := by
  obtain ⟨h1, h2⟩ := divInt_parts (-1) 2 (by decide)
  show PyData.tuple [.int (Rat.divInt (-1) 2).num, .int (Rat.divInt (-1) 2).den] = _
  rw [h1, h2]
  rfl
theorem fr_12 : fr (1 / 2 : Rat) = .tuple [.int 1, .int 2] := by
  show PyData.tuple [.int (1 / 2 : Rat).num, .int (1 / 2 : Rat).den] = _
  rw [show (1 / 2 : Rat).num = 1 by decide +kernel, show (1 / 2 : Rat).den = 2 by decide +kernel]
  rfl
theorem pq_ng : pq (fpoly .ng) = .tuple [.tuple [.int (-2), .int 1]] := rfl
theorem pq_qc : pq (fpoly .qc) = .tuple [.tuple [.int 3, .int 1], .tuple [.int 1, .int 1], .tuple [.int 1, .int 1]] := rfl
theorem pq_qd : pq (fpoly .qd) = .tuple [.tuple [.int 1, .int 3], .tuple [.int 0, .int 1], .tuple [.int 0, .int 1], .tuple [.int 0, .int 1], .tuple [.int 5, .int 1]] := by
  show PyData.tuple [fr (1 / 3), fr 0, fr 0, fr 0, fr 5] = _
  rw [fr_13]
  rfl
theorem zs_fok (L : List Fa) (h : ∀ f ∈ L, fok f) : ∀ q, Zr.rat q ∈ zsOf L → fok (.lin q) := by
  have key : ∀ (L : List Fa) (zs : List Zr), (∀ f ∈ L, fok f) → (∀ q, Zr.rat q ∈ zs → fok (.lin q)) → ∀ q, Zr.rat q ∈ L.foldl zadd zs → fok (.lin q) := by
    intro L
    induction L with
    | nil => intro zs _ hz; exact hz
    | cons f L ih =>
      intro zs hf hz
      rw [List.foldl_cons]
      refine ih _ (fun g hg => hf g (List.mem_cons_of_mem _ hg)) ?_
      have h0 := hf f List.mem_cons_self
      cases f with
      | lin r =>
        simp only [zadd]
        split
        · exact hz
        · intro q hm
          rcases List.mem_append.mp hm with hm | hm
          · exact hz q hm
          · have := List.mem_singleton.mp hm
            injection this with this
            rw [this]
            exact h0
      | sq k =>
        simp only [zadd]
        intro q hm
        rcases List.mem_append.mp hm with hm | hm
        · exact hz q hm
        · have := (List.mem_filter.mp hm).1
          simp at this
      | qa => exact hz
      | qb => exact hz
      | qc => exact hz
      | qd => exact hz
      | ng => exact hz
  exact key L [] h (by simp)
theorem fr_3 : fr (3 : Rat) = .tuple [.int 3, .int 1] := rfl
theorem mkp_1 : mkp 7 [] = [7] := rfl
theorem mkp_2 : mkp 1 [.lin 0] = [0, 1] := by decide +kernel
theorem mkp_3 : mkp 1 [.lin 0, .lin 0] = [0, 0, 1] := by decide +kernel
theorem fok_0 : fok (.lin 0) := ⟨0, 1, by decide +kernel, by decide, by decide, .inl rfl⟩
theorem fok_3 : fok (.lin 3) := ⟨3, 1, by decide +kernel, by decide, by decide, .inl rfl⟩
theorem fok_m : fok (.lin (Rat.divInt (-1) 2)) := ⟨-1, 2, rfl, by decide, by decide, .inr (.inl rfl)⟩
theorem good_1 : Good 7 [] := ⟨⟨7, 1, by decide +kernel, by decide, by decide⟩, by simp, by simp, by simp, by simp, by simp⟩
theorem good_2 : Good 1 [.lin 0] := ⟨⟨1, 1, by decide +kernel, by decide, by decide⟩, fun f h => by rw [List.mem_singleton.mp h]; exact fok_0, by decide, by decide, by decide, by decide⟩
theorem good_3 : Good 1 [.lin 0, .lin 0] := ⟨⟨1, 1, by decide +kernel, by decide, by decide⟩, fun f h => by
  have : f = .lin 0 := by simpa using h
  rw [this]
  exact fok_0, by decide, by decide, by decide, by decide⟩
theorem repF_0 : RepF (.int 0) 0 := RepF.int 0
theorem repF_1 : RepF (.int 1) 1 := RepF.int 1
theorem repF_7 : RepF (.int 7) 7 := RepF.int 7
theorem repF_m1 : RepF (.int (-1)) (-1) := RepF.int (-1)
theorem repF_m1000 : RepF (.int (-1000)) (-1000) := RepF.int (-1000)
theorem repF_1000 : RepF (.int 1000) 1000 := RepF.int 1000
theorem rep_1 : RepP (.list [.int 7]) [7] := ⟨[(.int 7, 7)], fun p hp => by rw [List.mem_singleton.mp hp]; exact repF_7, .inl rfl, rfl, by decide⟩
theorem rep_2 : RepP (.list [.int 0, .int 1]) [0, 1] := ⟨[(.int 0, 0), (.int 1, 1)], fun p hp => by
  simp only [List.mem_cons, List.not_mem_nil, or_false] at hp
  rcases hp with rfl | rfl
  · exact repF_0
  · exact repF_1, .inl rfl, rfl, by decide⟩
theorem rep_3 : RepP (.list [.int 0, .int 0, .int 1]) [0, 0, 1] := ⟨[(.int 0, 0), (.int 0, 0), (.int 1, 1)], fun p hp => by
  simp only [List.mem_cons, List.not_mem_nil, or_false] at hp
  rcases hp with rfl | rfl | rfl
  · exact repF_0
  · exact repF_0
  · exact repF_1, .inl rfl, rfl, by decide⟩
theorem sm_0 : Sm 0 := ⟨by decide +kernel, by decide +kernel⟩
theorem sm_1 : Sm 1 := ⟨by decide +kernel, by decide +kernel⟩
theorem sm_m1 : Sm (-1) := ⟨by decide +kernel, by decide +kernel⟩
theorem sm_1000 : Sm 1000 := ⟨by decide +kernel, by decide +kernel⟩
theorem sm_m1000 : Sm (-1000) := ⟨by decide +kernel, by decide +kernel⟩
set_option maxHeartbeats 1000000 in
theorem fk_law {f : Addr} {fd : FuncData} (F : Fun K "law" "law" sLaw f fd) (ba : Bas P mg base) (hPd : PdAll) (Z : ZAll)
    (DC : DLCounter P w K mg base) (DZ : DZeros P w K mg base) (DS : DStretch P w K mg base) (DA : DAs P w K mg base) (DM : DLMany P w K mg base) (DI : DZerosIn P w K mg base) (DIK : DefK P w K mg base "zeros_in" ["poly", "low", "high"] ["high", "low", "poly"] 40 (spR K 3 rZerosIn))
    (DP : DLPlus P w K mg base) (DT : DLTimes P w K mg base) (DPr : DLProduct P w K mg base) (DPi : DPick P w K mg base) : FnOk P w K mg base CX0 41 f fd ["_law_script"] (spR K 1 rLaw) := by
  refine fn_RA F scLaw ba (by decide) rfl fun ds d hR _ => ?_
  obtain ⟨ns, rfl, hns, rfl⟩ := hR
  have B0 := ba.b0
  show R _ [.dat (il ns), .any, .any, .any, .any, .any, .any, .any, .any, .any, .any, .any, .any, .any, .any] [] _ _ _
  refine r_setL (i := 1) (ds := [il (ns.take 60), .int 0, .int 0]) rfl (by walk_at "loc") (bl_callL DC (by walk_at "hk") (by kernel_rfl) (ds := [il ns]) (by walk_at "bb") ⟨ns, rfl, hns, rfl⟩ rfl (fun _ => rfl) (fun _ => rfl) (by kernel_rfl)) (by walk_at "sw") fun c => ?_
  have hcn0 : Cn 0 [il (ns.take 60), .int 0, .int 0] := ⟨ns.take 60, 0, 0, rfl, Nat.le_refl _, by rw [List.length_take]; omega⟩
  show R _ [.dat (il ns), .adr c, .any, .any, .any, .any, .any, .any, .any, .any, .any, .any, .any, .any, .any] [(c, [il (ns.take 60), .int 0, .int 0])] _ _ _
  refine r_for (as := List.range (3 : Int).toNat) (g := fun k => .int (k : Nat)) (bi_range B0 rfl (fun _ => rfl) (by walk_at "bb") (by decide) (by decide)) (fun i ss ow => ∃ cs s2 s3 s4 s5 s6 s7 s8 s9 s10 s11 s12, ss = [.dat (il ns), .adr c, s2, s3, s4, s5, s6, s7, s8, s9, s10, s11, s12, .any, .any] ∧ ow = [(c, cs)] ∧ Cn (1000 * i) cs) ⟨_, .any, .any, .any, .any, .any, .any, .any, .any, .any, .any, .any, rfl, rfl, hcn0⟩ (fun i ss ow h => by obtain ⟨_, _, _, _, _, _, _, _, _, _, _, _, _, rfl, _⟩ := h; rfl) (fun i a ss ow ha hI => ?_) (fun ss ow hI => ?_) (fun _ _ => rfl)
  · obtain ⟨cs, s2, s3, s4, s5, s6, s7, s8, s9, s10, s11, s12, rfl, rfl, hc⟩ := hI
    have hi3 : i < 3 := by
      have := (List.getElem?_eq_some_iff.mp ha).1
      rwa [List.length_range] at this
    refine ⟨_, _, bg_name (i := 2) rfl (by walk_at "loc"), ?_⟩
    show R _ [.dat (il ns), .adr c, .dat (.int (a : Nat)), s3, s4, s5, s6, s7, s8, s9, s10, s11, s12, .any, .any] [(c, cs)] _ _ _
    generalize SS.dat (.int (a : Nat)) = s2
    refine r_asgE (be_mono (be_call DZ (by walk_at "hk") (by kernel_rfl) (i := 1) (ds := []) rfl rfl (vis_of (by kernel_rfl)) ba_nil rfl ⟨1000 * i, by omega, hc, rfl⟩ (fun cs' d hp => hp) (fun _ => rfl) (fun _ => rfl) (by kernel_rfl) (by kernel_rfl)) fun cs1 d hp => ?_) (by walk_at "sw") (by walk_at "sw") (fun _ => rfl)
    obtain ⟨h1, c0, L, rfl, hc0, hL⟩ := hp
    have hcn1 := h1 _ hc
    refine ⟨_, _, bg_pair (i := 3) (j := 4) rfl (by walk_at "loc") rfl (by walk_at "loc"), ?_⟩
    have hGd : Good c0 L := hL.good hc0 (by omega) (by omega) (by omega)
    have hln : (mkp c0 L).length < 19 := Z.len c0 L hGd hL.nx
    have hzs := zs_sa L hL.f
    have hzl := hL.zlen
    have hzo : ∀ z ∈ zsOf L, zok z := fun z hz => zsa_ok (hzs z hz)
    show R _ [.dat (il ns), .adr c, s2, .dat (pq (mkp c0 L)), .dat (.list ((zsOf L).map zd)), s5, s6, s7, s8, s9, s10, s11, s12, .any, .any] [(c, cs1)] _ _ _
    refine r_asgE (be_mono (be_call DS (by walk_at "hk") (by kernel_rfl) (i := 1) (ds := [.list ((zsOf L).map zd)]) rfl rfl (vis_of (by kernel_rfl)) (by walk_at "bb") rfl ⟨1000 * i + 30, zsOf L, by omega, hcn1, rfl, by omega, hzs⟩ (fun cs' d hp => hp) (fun _ => rfl) (fun _ => rfl) (by kernel_rfl) (by kernel_rfl)) fun cs2 d hp => ?_) (by walk_at "sw") (by walk_at "sw") (fun _ => rfl)
    obtain ⟨h2, lo, hi, rfl, hlt, hlo, hhi⟩ := hp
    have hcn2 := h2 _ hcn1
    refine ⟨_, _, bg_pair (i := 5) (j := 6) rfl (by walk_at "loc") rfl (by walk_at "loc"), ?_⟩
    show R _ [.dat (il ns), .adr c, s2, .dat (pq (mkp c0 L)), .dat (.list ((zsOf L).map zd)), .dat (fr lo), .dat (fr hi), s7, s8, s9, s10, s11, s12, .any, .any] [(c, cs2)] _ _ _
    -- passed, due
    refine r_parE (i := 7) (j := 8) rfl rfl (by decide) rfl rfl (bae_cons (be_lc (as := mkp c0 L) (g := fr) [("_law_number", 13)] (by kernel_rfl) (fun j csj outs => outs.length = j ∧ Cn (1000 * i + 30 + 5 + 2 * j) csj ∧ ∀ (t : Nat) (q : Rat) (d : PyData), (mkp c0 L)[t]? = some q → outs[t]? = some d → RepF d q) (bi_tup (by walk_at "bb")) (by omega) ⟨rfl, hcn2, fun t q d _ h => by simp at h⟩ (fun j csj outs h => h.1) (fun j q csj outs hq hI => ?_) (fun cs' outs hI => ?_) (fun _ _ => rfl)) (fun _ => rfl)) (by walk_at "sw") (by walk_at "sw")
    · obtain ⟨o1, o2, o3⟩ := hI
      have hjl := (List.getElem?_eq_some_iff.mp hq).1
      refine ⟨_, [13], by simp, bg_name (i := 13) rfl (by walk_at "loc"), ?_⟩
      show BE _ [.dat (il ns), .adr c, s2, .dat (pq (mkp c0 L)), .dat (.list ((zsOf L).map zd)), .dat (fr lo), .dat (fr hi), s7, s8, s9, s10, s11, s12, .dat (fr q), .any] _ _ _ _ _
      refine be_mono (be_call DA (by walk_at "hk") (by kernel_rfl) (i := 1) (ds := [fr q]) rfl rfl (vis_of (by kernel_rfl)) (by walk_at "bb") rfl ⟨_, q, by omega, o2, rfl⟩ (fun cs' d hp => hp) (fun _ => rfl) (fun _ => rfl) (by kernel_rfl) (by kernel_rfl)) fun cs3 d hp => ?_
      obtain ⟨h3, h4⟩ := hp
      refine ⟨by rw [List.length_append, o1]; rfl, (h3 _ o2).mono (by omega), fun t q' d' ht hd => ?_⟩
      by_cases htj : t < outs.length
      · rw [List.getElem?_append_left htj] at hd
        exact o3 t q' d' ht hd
      · have htl := (List.getElem?_eq_some_iff.mp hd).1
        rw [List.length_append, List.length_singleton] at htl
        have : t = j := by omega
        subst this
        rw [hq] at ht
        cases ht
        rw [List.getElem?_append_right (by omega), o1, Nat.sub_self] at hd
        cases hd
        exact h4 _ rfl
    obtain ⟨o1, o2, o3⟩ := hI
    have hcn3 : Cn (1000 * i + 100) cs' := o2.mono (by omega)
    have hpas : RepP (.list outs) (mkp c0 L) ∧ RepP (.tuple outs) (mkp c0 L) := by
      have e1 : (List.zip outs (mkp c0 L)).map (·.1) = outs := List.map_fst_zip (by omega)
      have e2 : (List.zip outs (mkp c0 L)).map (·.2) = mkp c0 L := List.map_snd_zip (by omega)
      have hz : ∀ p ∈ List.zip outs (mkp c0 L), RepF p.1 p.2 := by
        intro p hp
        obtain ⟨t, ht⟩ := List.mem_iff_getElem?.mp hp
        rw [List.getElem?_zip_eq_some] at ht
        exact o3 t p.2 p.1 ht.2 ht.1
      have hzl2 : (List.zip outs (mkp c0 L)).length ≤ 80 := by rw [List.length_zip]; omega
      exact ⟨⟨_, hz, .inl (by rw [e1]), e2.symm, hzl2⟩, ⟨_, hz, .inr (by rw [e1]), e2.symm, hzl2⟩⟩
    clear o1 o2 o3
    refine bae_cons (be_pure (d := .int (many (zsOf L) lo hi)) (b_callI DM (by walk_at "hk") (by kernel_rfl) (ds := [.list ((zsOf L).map zd), fr lo, fr hi]) (by walk_at "bb") ⟨_, _, _, rfl, by omega, hzo, hlo.sm, hhi.sm, rfl⟩ rfl (fun _ => rfl) (fun _ => rfl) (by kernel_rfl)) (bae_nil ⟨_, _, rfl, ?_⟩)) (fun _ => rfl)
    show R _ [.dat (il ns), .adr c, s2, .dat (pq (mkp c0 L)), .dat (.list ((zsOf L).map zd)), .dat (fr lo), .dat (fr hi), .dat (.list outs), .dat (.int (many (zsOf L) lo hi)), s9, s10, s11, s12, .any, .any] [(c, cs')] _ _ _
    have hmn := many_nn (zsOf L) lo hi
    refine r_ifE (bte_or (bte_neS (be_repr B0 (fun _ => rfl) rfl (be_callR DI (by walk_at "hk") (by kernel_rfl) (bae_cons (be_pure (d := .list outs) (by walk_at "bb") (bae_cons (be_mono (be_call DA (by walk_at "hk") (by kernel_rfl) (i := 1) (ds := [fr lo]) rfl rfl (vis_of (by kernel_rfl)) (by walk_at "bb") rfl ⟨_, lo, by omega, hcn3, rfl⟩ (fun cs' d hp => hp) (fun _ => rfl) (fun _ => rfl) (by kernel_rfl) (by kernel_rfl)) fun cs4 dl hp => ?_) (fun _ => rfl))) (fun _ => rfl)) (fun _ => rfl) (fun _ => rfl) (by kernel_rfl))) rfl))
    obtain ⟨h3, h4⟩ := hp
    have hcn4 := h3 _ hcn3
    have hrl := h4 _ rfl
    refine bae_cons (be_mono (be_call DA (by walk_at "hk") (by kernel_rfl) (i := 1) (ds := [fr hi]) rfl rfl (vis_of (by kernel_rfl)) (by walk_at "bb") rfl ⟨_, hi, by omega, hcn4, rfl⟩ (fun cs' d hp => hp) (fun _ => rfl) (fun _ => rfl) (by kernel_rfl) (by kernel_rfl)) fun cs5 dh hp => ?_) (fun _ => rfl)
    obtain ⟨h5, h6⟩ := hp
    have hcn5 := h5 _ hcn4
    have hrh := h6 _ rfl
    refine bae_nil ⟨rfl, .int (many (zsOf L) lo hi), zin_of Z hGd hln hlo.sm hhi.sm hlt hpas.1 hrl hrh, many (zsOf L) lo hi, rfl, log_small (by omega) (by omega), toString (many (zsOf L) lo hi), toString (many (zsOf L) lo hi), rfl, b_repr B0 (fun _ => rfl) rfl (by walk_at "bb") (log_small (by omega) (by omega)), !decide (many (zsOf L) lo hi = many (zsOf L) lo hi), fun _ => ?_, fun h => ?_, fun _ => r_nil ?_⟩
    · exact bw_or1 (bt_cmp (.neI _ _) (b_callK0 DIK (by walk_at "hk") (by kernel_rfl) (d1 := fr hi) (d2 := fr lo) (d3 := .tuple outs) (by walk_at "bb") (by walk_at "bb") (b_tupleL B0 (fun _ => rfl) rfl (by walk_at "bb")) (zin_of Z hGd hln hlo.sm hhi.sm hlt hpas.2 (RepF.fr lo) (RepF.fr hi)) (fun _ => rfl) (fun _ => rfl) (by kernel_rfl) (fun _ => rfl)) (by walk_at "bb") rfl)
    · rw [decide_eq_true rfl, decide_eq_true rfl] at h
      cases h
    have hcn6 : Cn (1000 * i + 200) cs5 := hcn5.mono (by omega)
    obtain ⟨hm1, hm2⟩ := hlo.mid hhi
    obtain ⟨hm3, hm4⟩ := mid_lt hlt
    have h12 : Sm (1 / 2 : Rat) := ⟨by decide +kernel, by decide +kernel⟩
    refine r_set (i := 9) (d := fr ((lo + hi) * (1 / 2))) rfl (by walk_at "loc") (b_callI DT (by walk_at "hk") (by kernel_rfl) (ds := [fr (lo + hi), fr (1 / 2)]) (ba_cons (b_callI DP (by walk_at "hk") (by kernel_rfl) (ds := [fr lo, fr hi]) (by walk_at "bb") ⟨_, _, rfl, hlo.sm.sf, hhi.sm.sf, rfl⟩ rfl (fun _ => rfl) (fun _ => rfl) (by kernel_rfl)) (ba_cons (B.cast (d := .tuple [.int 1, .int 2]) (by walk_at "bb") fr_12.symm) ba_nil (fun _ => rfl)) (fun _ => rfl)) ⟨_, _, rfl, hm1.sf, h12.sf, rfl⟩ rfl (fun _ => rfl) (fun _ => rfl) (by kernel_rfl)) (by walk_at "sw") ?_
    generalize (lo + hi) * (1 / 2) = mid at hm2 hm3 hm4 ⊢
    show R _ [.dat (il ns), .adr c, s2, .dat (pq (mkp c0 L)), .dat (.list ((zsOf L).map zd)), .dat (fr lo), .dat (fr hi), .dat (.list outs), .dat (.int (many (zsOf L) lo hi)), .dat (fr mid), s10, s11, s12, .any, .any] [(c, cs5)] _ _ _
    have hrp : RepP (pq (mkp c0 L)) (mkp c0 L) := repP_pq _ (by omega)
    refine r_if (t := !decide (many (zsOf L) lo mid + many (zsOf L) mid hi = many (zsOf L) lo hi)) (bt_cmp (.neI _ _) (b_add (b_callI DI (by walk_at "hk") (by kernel_rfl) (ds := [pq (mkp c0 L), fr lo, fr mid]) (by walk_at "bb") (zin_of Z hGd hln hlo.sm hm2 hm3 hrp (RepF.fr _) (RepF.fr _)) rfl (fun _ => rfl) (fun _ => rfl) (by kernel_rfl)) (b_callI DI (by walk_at "hk") (by kernel_rfl) (ds := [pq (mkp c0 L), fr mid, fr hi]) (by walk_at "bb") (zin_of Z hGd hln hm2 hhi.sm hm4 hrp (RepF.fr _) (RepF.fr _)) rfl (fun _ => rfl) (fun _ => rfl) (by kernel_rfl))) (by walk_at "bb") rfl) (fun h => ?_) fun _ => r_nil ?_
    · rw [decide_eq_true (Z.split _ _ _ _ hzs hm3 hm4)] at h
      cases h
    -- one factor more without a zero
    refine r_setE (i := 10) rfl (by walk_at "loc") (be_callR DPr (by walk_at "hk") (by kernel_rfl) (bae_cons (be_pure (d := pq (mkp c0 L)) (by walk_at "bb") (bae_cons (be_mono (be_call DPi (by walk_at "hk") (by kernel_rfl) (i := 1) (ds := [.list [pq (fpoly .ng), pq (fpoly .qc), pq (fpoly .qd)]]) rfl rfl (vis_of (by kernel_rfl)) (ba_cons (B.cast (d := .list [.tuple [.tuple [.int (-2), .int 1]], .tuple [.tuple [.int 3, .int 1], .tuple [.int 1, .int 1], .tuple [.int 1, .int 1]], .tuple [.tuple [.int 1, .int 3], .tuple [.int 0, .int 1], .tuple [.int 0, .int 1], .tuple [.int 0, .int 1], .tuple [.int 5, .int 1]]]) (bl_lst (by walk_at "bb") (Nat.le_of_ble_eq_true rfl)).toB (by rw [pq_ng, pq_qc, pq_qd])) ba_nil (fun _ => rfl)) rfl ⟨_, _, by omega, hcn6, rfl, by simp, by simp⟩ (fun cs' d hp => hp) (fun _ => rfl) (fun _ => rfl) (by kernel_rfl) (by kernel_rfl)) fun cs7 d hp => ?_) (fun _ => rfl))) (fun _ => rfl)) (fun _ => rfl) (fun _ => rfl) (by kernel_rfl)) (by walk_at "sw")
    obtain ⟨h7, h8⟩ := hp
    have hcn7 := h7 _ hcn6
    have hd := h8 _ rfl
    have hf : ∃ f : Fa, d = pq (fpoly f) ∧ Good c0 (L ++ [f]) ∧ zsOf (L ++ [f]) = zsOf L := by
      rcases List.mem_cons.mp hd with h | hd
      · exact ⟨.ng, h, hL.goodX hc0 rfl rfl rfl rfl trivial, zsOf_x rfl⟩
      · rcases List.mem_cons.mp hd with h | hd
        · exact ⟨.qc, h, hL.goodX hc0 rfl rfl rfl rfl trivial, zsOf_x rfl⟩
        · exact ⟨.qd, List.mem_singleton.mp hd, hL.goodX hc0 rfl rfl rfl rfl trivial, zsOf_x rfl⟩
    obtain ⟨fa, rfl, hGx, hzx⟩ := hf
    refine bae_nil ⟨rfl, pq (mkp c0 (L ++ [fa])), ⟨_, _, rfl, hPd _ _ _ hGx, by rw [mkp_snoc]⟩, ?_⟩
    have hl80 := Z.len80 c0 _ hGx
    generalize L ++ [fa] = Lx at hGx hzx hl80 ⊢
    show R _ [.dat (il ns), .adr c, s2, .dat (pq (mkp c0 L)), .dat (.list ((zsOf L).map zd)), .dat (fr lo), .dat (fr hi), .dat (.list outs), .dat (.int (many (zsOf L) lo hi)), .dat (fr mid), .dat (pq (mkp c0 Lx)), s11, s12, .any, .any] [(c, cs7)] _ _ _
    refine r_if (t := decide (((mkp c0 Lx).length : Int) < 19) && !decide (many (zsOf L) lo hi = many (zsOf L) lo hi)) (bt_w (bw_and (bt_cmp (.lt _ _) (B.cast (b_lenT B0 (fun _ => rfl) rfl (by walk_at "bb")) (by rw [List.length_map])) (by walk_at "bb") rfl) fun h => ?_)) (fun h => ?_) fun _ => r_nil ?_
    · have h : ((mkp c0 Lx).length : Int) < 19 := of_decide_eq_true h
      have hz := zin_of Z hGx (by omega) hlo.sm hhi.sm hlt (repP_pq _ hl80) (RepF.fr lo) (RepF.fr hi)
      rw [hzx] at hz
      exact bw_and1 (bt_cmp (.neI _ _) (b_callI DI (by walk_at "hk") (by kernel_rfl) (ds := [pq (mkp c0 Lx), fr lo, fr hi]) (by walk_at "bb") hz rfl (fun _ => rfl) (fun _ => rfl) (by kernel_rfl)) (by walk_at "bb") rfl)
    · rw [decide_eq_true rfl, Bool.not_true, Bool.and_false] at h
      cases h
    -- a further zero
    have hcn8 : Cn (1000 * i + 300) cs7 := hcn7.mono (by omega)
    have hfl := List.length_filter_le isRat (zsOf L)
    refine r_setE (i := 11) rfl (by walk_at "loc") (be_mono (be_call DPi (by walk_at "hk") (by kernel_rfl) (i := 1) (ds := [.list ([fr 3, fr 0, fr (Rat.divInt (-1) 2)] ++ lcRes (zsOf L) isRat zq)]) rfl rfl (vis_of (by kernel_rfl)) (ba_cons (bl_cat (B.cast (d := .list [.tuple [.int 3, .int 1], .tuple [.int 0, .int 1], .tuple [.int (-1), .int 2]]) (bl_lst (by walk_at "bb") (Nat.le_of_ble_eq_true rfl)).toB (by rw [fr_m12, fr_3, fr_0])) (bl_lc (as := zsOf L) (g := zd) (f := isRat) (v := zq) [("_law_each", 14)] (by kernel_rfl) (bi_list (by walk_at "bb")) (by omega) (fun z hzm => ?_) (fun _ _ => rfl)).toB ?_).toB ba_nil (fun _ => rfl)) rfl ⟨_, _, by omega, hcn8, rfl, by simp, ?_⟩ (fun cs' d hp => hp) (fun _ => rfl) (fun _ => rfl) (by kernel_rfl) (by kernel_rfl)) fun cs9 d hp => ?_) (by walk_at "sw")
    · cases z with
      | rat q =>
        refine ⟨_, [14], by simp, bg_name (i := 14) rfl (by walk_at "loc"), bts_one (b := true) (bt_cmp (.eqI 0 0) (b_ixT (ds := [fr q, .int 0]) (n := 1) ?_ (by walk_at "bb") rfl (fun _ _ => rfl)) (by walk_at "bb") rfl), fun _ => ?_⟩
        · show B _ [.dat (il ns), .adr c, s2, .dat (pq (mkp c0 L)), .dat (.list ((zsOf L).map zd)), .dat (fr lo), .dat (fr hi), .dat (.list outs), .dat (.int (many (zsOf L) lo hi)), .dat (fr mid), .dat (pq (mkp c0 Lx)), s11, s12, .any, .dat (.tuple [fr q, .int 0])] _ _ _
          walk_at "bb"
        · show B _ [.dat (il ns), .adr c, s2, .dat (pq (mkp c0 L)), .dat (.list ((zsOf L).map zd)), .dat (fr lo), .dat (fr hi), .dat (.list outs), .dat (.int (many (zsOf L) lo hi)), .dat (fr mid), .dat (pq (mkp c0 Lx)), s11, s12, .any, .dat (.tuple [fr q, .int 0])] _ _ (fr q)
          exact b_ixT (ds := [fr q, .int 0]) (n := 0) (by walk_at "bb") (by walk_at "bb") rfl (fun _ _ => rfl)
      | root s k =>
        have hk : 0 < k := (hzs _ hzm).1
        refine ⟨_, [14], by simp, bg_name (i := 14) rfl (by walk_at "loc"), ?_, fun h => by cases h⟩
        rw [show isRat (.root s k) = decide (k = 0) from (decide_eq_false (by omega)).symm]
        refine bts_one (bt_cmp (.eqI k 0) (b_ixT (ds := [.int s, .int k]) (n := 1) ?_ (by walk_at "bb") rfl (fun _ _ => rfl)) (by walk_at "bb") rfl)
        show B _ [.dat (il ns), .adr c, s2, .dat (pq (mkp c0 L)), .dat (.list ((zsOf L).map zd)), .dat (fr lo), .dat (fr hi), .dat (.list outs), .dat (.int (many (zsOf L) lo hi)), .dat (fr mid), .dat (pq (mkp c0 Lx)), s11, s12, .any, .dat (.tuple [.int s, .int k])] _ _ _
        walk_at "bb"
    · unfold lcRes
      simp
      omega
    · unfold lcRes
      simp
      omega
    obtain ⟨h9, h10⟩ := hp
    have hcn9 := h9 _ hcn8
    have hd := h10 _ rfl
    have hr : ∃ r : Rat, d = fr r ∧ fok (.lin r) := by
      rcases List.mem_append.mp hd with hd | hd
      · rcases List.mem_cons.mp hd with h | hd
        · exact ⟨3, h, fok_3⟩
        · rcases List.mem_cons.mp hd with h | hd
          · exact ⟨0, h, fok_0⟩
          · exact ⟨_, List.mem_singleton.mp hd, fok_m⟩
      · unfold lcRes at hd
        obtain ⟨z, hzm, rfl⟩ := List.mem_map.mp hd
        obtain ⟨hzm, hzr⟩ := List.mem_filter.mp hzm
        cases z with
        | rat q => exact ⟨q, rfl, zs_fok L hL.f q hzm⟩
        | root s k => cases hzr
    obtain ⟨r, rfl, hrf⟩ := hr
    obtain ⟨hGr, hxr⟩ := hL.goodL hc0 hrf
    have hlr := Z.len c0 _ hGr hxr
    show R _ [.dat (il ns), .adr c, s2, .dat (pq (mkp c0 L)), .dat (.list ((zsOf L).map zd)), .dat (fr lo), .dat (fr hi), .dat (.list outs), .dat (.int (many (zsOf L) lo hi)), .dat (fr mid), .dat (pq (mkp c0 Lx)), .dat (fr r), s12, .any, .any] [(c, cs9)] _ _ _
    have hzr : zsOf (L ++ [.lin r]) = zadd (zsOf L) (.lin r) := zsOf_snoc _ _
    refine r_set (i := 12) (d := .list ((zsOf (L ++ [.lin r])).map zd)) rfl (by walk_at "loc") (b_if (t := decide (Zr.rat r ∈ zsOf L)) ?_ (fun h => ?_) fun h => ?_) (by walk_at "sw") ?_
    · rw [← any_zd]
      exact bt_cmp (.inD (zd (.rat r)) _ (shaped_zd _) (shaped_zds _)) (by walk_at "bb") (by walk_at "bb") rfl
    · rw [hzr, show zadd (zsOf L) (.lin r) = zsOf L from if_pos (of_decide_eq_true h)]
      walk_at "bb"
    · rw [hzr, show zadd (zsOf L) (.lin r) = zsOf L ++ [.rat r] from if_neg (of_decide_eq_false h), List.map_append]
      exact (bl_cat (ds1 := (zsOf L).map zd) (ds2 := [zd (.rat r)]) (by walk_at "bb") (bl_lst (by walk_at "bb") (Nat.le_of_ble_eq_true rfl)).toB (by rw [List.length_map]; simp; omega)).toB
    have hzs2 := zs_sa (L ++ [.lin r]) hGr.f
    have hzl2 : (zsOf (L ++ [.lin r])).length ≤ 1000 := by
      have := zs_len (L ++ [.lin r]) []
      have h2 := fa_count (L ++ [.lin r])
      have := hGr.nl
      have := hGr.ns
      have := hGr.nq
      have := hGr.nx
      unfold zsOf
      simp only [List.length_nil] at *
      omega
    have hprod : pq (mkp c0 (L ++ [.lin r])) = pq (lprod (mkp c0 L) (fpoly (.lin r))) := by rw [mkp_snoc]
    have hpd := hPd _ _ _ hGr
    generalize L ++ [.lin r] = Lr at hGr hlr hzs2 hzl2 hprod ⊢
    show R _ [.dat (il ns), .adr c, s2, .dat (pq (mkp c0 L)), .dat (.list ((zsOf L).map zd)), .dat (fr lo), .dat (fr hi), .dat (.list outs), .dat (.int (many (zsOf L) lo hi)), .dat (fr mid), .dat (pq (mkp c0 Lx)), .dat (fr r), .dat (.list ((zsOf Lr).map zd)), .any, .any] [(c, cs9)] _ _ _
    refine r_if (t := !decide (many (zsOf Lr) lo hi = many (zsOf Lr) lo hi)) (bt_cmp (.neI _ _) (b_callI DI (by walk_at "hk") (by kernel_rfl) (ds := [pq (mkp c0 Lr), fr lo, fr hi]) (ba_cons (b_callI DPr (by walk_at "hk") (by kernel_rfl) (ds := [pq (mkp c0 L), pq (fpoly (.lin r))]) (ba_cons (by walk_at "bb") (ba_cons (B.cast (d := .tuple [.tuple [.int (-r.num), .int r.den], .tuple [.int 1, .int 1]]) (by walk_at "bb") (pq_lin r).symm) ba_nil (fun _ => rfl)) (fun _ => rfl)) ⟨_, _, rfl, hpd, hprod⟩ rfl (fun _ => rfl) (fun _ => rfl) (by kernel_rfl)) (by walk_at "bb") (fun _ => rfl)) (zin_of Z hGr hlr hlo.sm hhi.sm hlt (repP_pq _ (by omega)) (RepF.fr lo) (RepF.fr hi)) rfl (fun _ => rfl) (fun _ => rfl) (by kernel_rfl)) (b_callI DM (by walk_at "hk") (by kernel_rfl) (ds := [.list ((zsOf Lr).map zd), fr lo, fr hi]) (by walk_at "bb") ⟨_, _, _, rfl, hzl2, fun z hz => zsa_ok (hzs2 z hz), hlo.sm, hhi.sm, rfl⟩ rfl (fun _ => rfl) (fun _ => rfl) (by kernel_rfl)) rfl) (fun h => ?_) fun _ => r_nil ?_
    · rw [decide_eq_true rfl] at h
      cases h
    refine r_if (t := !decide (many (zsOf L) (-1000) 1000 = ((zsOf L).length : Nat))) (bt_cmp (.neI _ _) (b_callI DI (by walk_at "hk") (by kernel_rfl) (ds := [pq (mkp c0 L), .int (-1000), .int 1000]) (by walk_at "bb") (zin_of Z hGd hln sm_m1000 sm_1000 (by decide +kernel) hrp repF_m1000 repF_1000) rfl (fun _ => rfl) (fun _ => rfl) (by kernel_rfl)) (B.cast (b_lenL B0 (fun _ => rfl) rfl (by walk_at "bb")) (by rw [List.length_map])) rfl) (fun h => ?_) fun _ => r_nil (r_nil ⟨cs9, _, _, _, _, _, _, _, _, _, _, _, rfl, rfl, hcn9.mono (by omega)⟩)
    rw [decide_eq_true (Z.all _ hzs)] at h
    cases h
  · obtain ⟨cs, s2, s3, s4, s5, s6, s7, s8, s9, s10, s11, s12, rfl, rfl, hc⟩ := hI
    have z1 := zin_of Z good_1 (by rw [mkp_1]; decide) sm_0 sm_1 (by decide +kernel) (by rw [mkp_1]; exact rep_1) repF_0 repF_1
    have z2 := zin_of Z good_2 (by rw [mkp_2]; decide) sm_m1 sm_0 (by decide +kernel) (by rw [mkp_2]; exact rep_2) repF_m1 repF_0
    have z3 := zin_of Z good_3 (by rw [mkp_3]; decide) sm_0 sm_1 (by decide +kernel) (by rw [mkp_3]; exact rep_3) repF_0 repF_1
    rw [show many (zsOf []) 0 1 = 0 by decide +kernel] at z1
    rw [show many (zsOf [.lin 0]) (-1) 0 = 1 by decide +kernel] at z2
    rw [show many (zsOf [.lin 0, .lin 0]) 0 1 = 0 by decide +kernel] at z3
    refine r_ret (d := .bool (decide ((0 : Int) = 0) && (decide ((1 : Int) = 1) && decide ((0 : Int) = 0)))) (b_and (b_cmp (.eqI _ _) (b_callI DI (by walk_at "hk") (by kernel_rfl) (ds := [.list [.int 7], .int 0, .int 1]) (ba_cons (bl_lst (by walk_at "bb") (Nat.le_of_ble_eq_true rfl)).toB (by walk_at "bb") (fun _ => rfl)) z1 rfl (fun _ => rfl) (fun _ => rfl) (by kernel_rfl)) (by walk_at "bb") rfl) fun _ => b_and (b_cmp (.eqI _ _) (b_callI DI (by walk_at "hk") (by kernel_rfl) (ds := [.list [.int 0, .int 1], .int (-1), .int 0]) (ba_cons (bl_lst (by walk_at "bb") (Nat.le_of_ble_eq_true rfl)).toB (by walk_at "bb") (fun _ => rfl)) z2 rfl (fun _ => rfl) (fun _ => rfl) (by kernel_rfl)) (by walk_at "bb") rfl) fun _ => b_one (b_cmp (.eqI _ _) (b_callI DI (by walk_at "hk") (by kernel_rfl) (ds := [.list [.int 0, .int 0, .int 1], .int 0, .int 1]) (ba_cons (bl_lst (by walk_at "bb") (Nat.le_of_ble_eq_true rfl)).toB (by walk_at "bb") (fun _ => rfl)) z3 rfl (fun _ => rfl) (fun _ => rfl) (by kernel_rfl)) (by walk_at "bb") rfl)) rfl
end
end Mf
end

-- text S1
section
set_option autoImplicit false
set_option linter.all false
/-! S1: sizes as the walk asks for them: products. -/
namespace Mf
theorem div_natCast (z : Int) (M : Nat) : (z : Rat) / (M : Rat) = Rat.divInt z (M : Int) := by rw [Rat.divInt_eq_div, Rat.intCast_natCast]
theorem sf_div {z : Int} {M B : Nat} (hM : 0 < M) (hz : z.natAbs ≤ B) (n : Nat) (hn : n ≤ 67108864) (hB : B < 2 ^ n) (hM2 : M < 2 ^ n) : SF ((z : Rat) / (M : Rat)) := by
  rw [div_natCast]
  obtain ⟨h1, h2⟩ := divInt_le (a := z) (b := (M : Int)) (by omega)
  exact ⟨⟨n, hn, by omega⟩, ⟨n, hn, by omega⟩⟩
theorem over_mem {M : Nat} {zs : List Int} {c : Rat} (h : c ∈ over M zs) : ∃ z ∈ zs, c = (z : Rat) / (M : Rat) := by
  obtain ⟨z, hz, rfl⟩ := List.mem_map.mp h
  exact ⟨z, hz, rfl⟩
theorem Sz.sf {M B : Nat} {l : List Rat} (h : Sz M B l) (n : Nat) (hn : n ≤ 67108864) (hB : B < 2 ^ n) (hM : M < 2 ^ n) : ∀ c ∈ l, SF c := by
  obtain ⟨h0, zs, rfl, hz⟩ := h
  intro c hc
  obtain ⟨z, hzm, rfl⟩ := over_mem hc
  exact sf_div h0 (Nat.le_trans (n1_mem hzm) hz) n hn hB hM
theorem n1_take (zs : List Int) (j : Nat) : n1 (zs.take j) ≤ n1 zs := by
  induction zs generalizing j with
  | nil => simp
  | cons a l ih =>
    cases j with
    | zero => show 0 ≤ _; omega
    | succ j =>
      rw [List.take_succ_cons, n1_cons, n1_cons]
      have := ih j
      omega
theorem n1_take_add : ∀ (zs : List Int) (i : Nat) (z : Int), zs[i]? = some z → n1 (zs.take i) + z.natAbs ≤ n1 zs
  | [], i, z, h => by simp at h
  | a :: l, 0, z, h => by
    simp at h
    subst h
    rw [n1_cons]
    show 0 + a.natAbs ≤ _
    omega
  | a :: l, i + 1, z, h => by
    rw [List.take_succ_cons, n1_cons, n1_cons]
    have := n1_take_add l i z (by simpa using h)
    omega
theorem pd_ok {M N A B : Nat} {l m : List Rat} (hl : Sz M A l) (hm : Sz N B m) (n : Nat) (hn : n ≤ 67108864) (hA : A < 2 ^ n) (hB : B < 2 ^ n) (hM : M < 2 ^ n) (hN : N < 2 ^ n) (hAB : A * B < 2 ^ n) (hMN : M * N < 2 ^ n) (l1 : l.length ≤ 100) (l2 : m.length ≤ 100) : PdOk l m := by
  have s1 := hl.sf n hn hA hM
  have s2 := hm.sf n hn hB hN
  obtain ⟨h0, zs, rfl, hz⟩ := hl
  obtain ⟨k0, ws, rfl, hw⟩ := hm
  have hMN0 : 0 < M * N := Nat.mul_pos h0 k0
  refine ⟨l1, l2, s1, s2, fun a ha b hb => ?_, fun i j x hx hj => ?_⟩
  · obtain ⟨z, hzm, rfl⟩ := over_mem ha
    obtain ⟨w, hwm, rfl⟩ := over_mem hb
    rw [div_mul_div]
    refine sf_div hMN0 (B := A * B) ?_ n hn hAB hMN
    rw [Int.natAbs_mul]
    exact Nat.mul_le_mul (Nat.le_trans (n1_mem hzm) hz) (Nat.le_trans (n1_mem hwm) hw)
  · have hx2 : ∃ z, zs[i]? = some z ∧ x = (z : Rat) / (M : Rat) := by
      unfold over at hx
      rw [List.getElem?_map, Option.map_eq_some_iff] at hx
      obtain ⟨z, h1, h2⟩ := hx
      exact ⟨z, h1, h2.symm⟩
    obtain ⟨z, hzi, rfl⟩ := hx2
    have e1 : (over M zs).take i = over M (zs.take i) := by unfold over; rw [List.map_take]
    have e2 : (over N ws).take j = over N (ws.take j) := by unfold over; rw [List.map_take]
    unfold pzero
    obtain ⟨z1, z2⟩ := over_zero hMN0 ((over M zs).length + (over N ws).length - 1)
    rw [z1, e1, e2]
    obtain ⟨v1, p1, p2⟩ := pout_sz (M := M) (N := N) ws (zs.take i) (List.replicate ((over M zs).length + (over N ws).length - 1) 0) 0
    rw [p1]
    obtain ⟨v2, q1, q2⟩ := pin_sz (M := M) (N := N) z (ws.take j) v1 i
    rw [q1]
    have hb : n1 v2 ≤ A * B := by
      have t1 := n1_take_add zs i z hzi
      have t2 := n1_take ws j
      have t3 : z.natAbs * n1 (ws.take j) ≤ z.natAbs * n1 ws := Nat.mul_le_mul_left _ t2
      have t4 : (n1 (zs.take i) + z.natAbs) * n1 ws ≤ A * B := Nat.mul_le_mul (Nat.le_trans t1 hz) hw
      rw [Nat.add_mul] at t4
      omega
    by_cases hlt : i + j < v2.length
    · have e : (over (M * N) v2).getD (i + j) 0 = ((v2[i + j] : Int) : Rat) / ((M * N : Nat) : Rat) := by
        unfold over
        rw [List.getD_eq_getElem?_getD, List.getElem?_map, List.getElem?_eq_getElem hlt]
        rfl
      rw [e]
      exact sf_div hMN0 (Nat.le_trans (n1_mem (List.getElem_mem hlt)) hb) n hn hAB hMN
    · have e : (over (M * N) v2).getD (i + j) 0 = 0 := by
        rw [List.getD_eq_getElem?_getD, List.getElem?_eq_none_iff.mpr (by rw [over_len]; omega)]
        rfl
      rw [e]
      exact ⟨SI.small (by decide +kernel), SI.small (by decide +kernel)⟩
theorem good_pre {c : Rat} {L : List Fa} {f : Fa} (h : Good c (L ++ [f])) : Good c L := by
  refine ⟨h.c, fun g hg => h.f g (List.mem_append_left _ hg), ?_, ?_, ?_, ?_⟩
  · have := h.nl; rw [List.countP_append] at this; omega
  · have := h.ns; rw [List.countP_append] at this; omega
  · have := h.nq; rw [List.countP_append] at this; omega
  · have := h.nx; rw [List.countP_append] at this; omega
theorem pdAll : PdAll := fun c L f h => by
  have hG := good_pre h
  have hf := h.f f (List.mem_append_right _ List.mem_cons_self)
  obtain ⟨M, hM, B, hB, hS⟩ := good_sz hG
  have h1 := fM_le f hf
  have h2 := fB_le f hf
  have h3 : bB f ≤ 19 := by cases f <;> simp [bB]
  refine pd_ok hS (fSz f) 200 (by decide) (Nat.lt_trans hB (by decide)) (Nat.lt_of_le_of_lt (Nat.le_trans h2 h3) (by decide)) (Nat.lt_trans hM (by decide)) (Nat.lt_of_le_of_lt h1 (by decide)) ?_ ?_ (Nat.le_trans (good_len80 hG) (by decide)) ?_
  · exact Nat.lt_of_le_of_lt (Nat.mul_le_mul (Nat.le_of_lt hB) (Nat.le_trans h2 h3)) (by decide)
  · exact Nat.lt_of_le_of_lt (Nat.mul_le_mul (Nat.le_of_lt hM) h1) (by decide)
  · cases f <;> simp [fpoly]
end Mf
end

-- text S2
section
set_option autoImplicit false
set_option linter.all false
/-! S2: sizes along a row of integers. -/
namespace Mf
def Bd (u : Nat) (l : List Int) : Prop := ∀ c ∈ l, c.natAbs < 2 ^ u
theorem Bd.mono {u v : Nat} {l : List Int} (h : Bd u l) (k : u ≤ v) : Bd v l := fun c hc => Nat.lt_of_lt_of_le (h c hc) (Nat.pow_le_pow_right (by decide) k)
theorem Bd.si {u : Nat} {l : List Int} (h : Bd u l) (k : u ≤ 67108864) : ∀ c ∈ l, SI c := fun c hc => ⟨u, k, h c hc⟩
theorem trim_mem {l : List Int} {c : Int} (h : c ∈ trim l) : c ∈ l := by
  induction l with
  | nil => exact h
  | cons a l ih =>
    rw [trim_cons] at h
    split at h
    · split at h
      · simp at h
      · rw [List.mem_singleton.mp h]; exact List.mem_cons_self
    · rcases List.mem_cons.mp h with rfl | h
      · exact List.mem_cons_self
      · exact List.mem_cons_of_mem _ (ih h)
theorem Bd.trim {u : Nat} {l : List Int} (h : Bd u l) : Bd u (trim l) := fun c hc => h c (trim_mem hc)
theorem Bd.less {u : Nat} {l : List Int} (h : Bd u l) : Bd u (less l) := by
  unfold Mf.less
  split
  · intro c hc
    obtain ⟨x, hx, rfl⟩ := List.mem_map.mp hc
    exact Nat.lt_of_le_of_lt (Int.natAbs_ediv_le_natAbs _ _) (h x hx)
  · exact h
theorem Bd.neg {u : Nat} {l : List Int} (h : Bd u l) : Bd u (l.map fun m => -m) := fun c hc => by
  obtain ⟨x, hx, rfl⟩ := List.mem_map.mp hc
  rw [Int.natAbs_neg]
  exact h x hx
theorem last_bd {u : Nat} {l : List Int} (h : Bd u l) : (l.getLastD 0).natAbs < 2 ^ u := by
  by_cases hl : l = []
  · rw [hl]; exact Nat.pow_pos (by decide)
  · exact h _ (getLastD_mem hl 0)
theorem raw_bd {u v : Nat} {other rest : List Int} (ho : Bd u other) (hr : Bd v rest) : Bd (v + (u + 1)) (raw other rest) := by
  have hlo := last_bd ho
  have hlr := last_bd hr
  have e : 2 ^ (v + (u + 1)) = 2 ^ u * 2 ^ v + 2 ^ u * 2 ^ v := by
    rw [← Nat.pow_add, show v + (u + 1) = (u + v) + 1 by omega, Nat.pow_succ]
    omega
  have hp1 : 0 < 2 ^ u := Nat.pow_pos (by decide)
  have hp2 : 0 < 2 ^ v := Nat.pow_pos (by decide)
  have hby : (((if other.getLastD 0 > 0 then 1 else -1) * rest.getLastD 0) : Int).natAbs = (rest.getLastD 0).natAbs := by
    split
    · rw [Int.one_mul]
    · rw [Int.neg_mul, Int.one_mul, Int.natAbs_neg]
  have m1 : ∀ c : Int, c.natAbs < 2 ^ v → (((other.getLastD 0).natAbs : Int) * c).natAbs < 2 ^ u * 2 ^ v := fun c hc => by
    rw [Int.natAbs_mul, Int.natAbs_natCast]
    exact Nat.mul_lt_mul'' hlo hc
  intro c hc
  rw [e]
  unfold raw at hc
  rcases List.mem_append.mp hc with hc | hc
  · obtain ⟨x, hx, rfl⟩ := List.mem_map.mp hc
    have := m1 x (hr x (List.mem_of_mem_take hx))
    omega
  · have hc := (List.dropLast_sublist _).subset hc
    rw [List.mem_iff_getElem?] at hc
    obtain ⟨i, hi⟩ := hc
    obtain ⟨a, b, ha, hb, rfl⟩ := List.getElem?_zipWith_eq_some.mp hi
    have h1 := m1 a (hr a (List.mem_of_mem_drop (List.mem_of_getElem? ha)))
    have h2 : (((if other.getLastD 0 > 0 then 1 else -1) * rest.getLastD 0) * b : Int).natAbs < 2 ^ u * 2 ^ v := by
      rw [Int.natAbs_mul, hby, Nat.mul_comm (2 ^ u)]
      exact Nat.mul_lt_mul'' hlr (ho b (List.mem_of_getElem? hb))
    have h3 := Int.natAbs_sub_le (((other.getLastD 0).natAbs : Int) * a) (((if other.getLastD 0 > 0 then 1 else -1) * rest.getLastD 0) * b)
    omega
theorem tstep_bd {u v : Nat} {other rest : List Int} (ho : Bd u other) (hr : Bd v rest) : Bd (v + (u + 1)) (tstep other rest) := by
  rw [tstep_is]
  exact (raw_bd ho hr).trim.less
/-- one entry: +-1 or 0 behind less -/
def U1 (l : List Int) : Prop := l.length = 1 → Bd 1 l
theorem less_u1 (l : List Int) : U1 (less l) := fun h => by
  rw [less_len] at h
  obtain ⟨c, rfl⟩ := List.length_eq_one_iff.mp h
  unfold less
  have hg : gcdAll [c] = c.natAbs := by
    show Nat.gcd 0 c.natAbs = c.natAbs
    exact Nat.gcd_zero_left _
  rw [hg]
  split
  · rename_i h1
    intro d hd
    simp only [List.map_cons, List.map_nil, List.mem_singleton] at hd
    subst hd
    have : (c / (c.natAbs : Int)).natAbs = 1 := by
      by_cases hc : 0 ≤ c
      · rw [show (c.natAbs : Int) = c by omega, Int.ediv_self (by omega)]
        rfl
      · rw [show (c.natAbs : Int) = -c by omega, Int.ediv_neg, Int.ediv_self (by omega)]
        rfl
    rw [this]
    decide
  · rename_i h1
    intro d hd
    rw [List.mem_singleton.mp hd]
    show c.natAbs < 2
    omega
theorem U1.neg {l : List Int} (h : U1 l) : U1 (l.map fun m => -m) := fun hl => (h (by simpa using hl)).neg
theorem tloop_bd {u : Nat} {other : List Int} (h0 : other ≠ []) (ho : Bd u other) : ∀ (n v : Nat) (rest : List Int), rest.length = n → Bd v rest → other.length ≤ n + 1 → (v + (n - other.length) * (u + 1) ≤ 67108864) →
    TRun other rest ∧ Bd (v + (n + 1 - other.length) * (u + 1)) (tloop other rest) ∧ (other.length ≤ n → U1 (tloop other rest)) := by
  intro n
  induction n using Nat.strongRecOn with
  | _ n ih =>
    intro v rest hn hr hlen hv
    rw [tloop]
    by_cases hc : other.length ≤ rest.length
    · rw [dif_pos ⟨h0, hc⟩]
      have hp := tstep_len h0 hc
      have hb := tstep_bd ho hr
      by_cases hm : other.length ≤ (tstep other rest).length + 1
      · have e1 : ((tstep other rest).length + 1 - other.length) * (u + 1) + (u + 1) ≤ (n + 1 - other.length) * (u + 1) := by
          rw [← Nat.succ_mul]
          exact Nat.mul_le_mul_right _ (by omega)
        by_cases hlt : other.length ≤ (tstep other rest).length
        · have e2 : ((tstep other rest).length - other.length) * (u + 1) + (u + 1) ≤ (n - other.length) * (u + 1) := by
            rw [← Nat.succ_mul]
            exact Nat.mul_le_mul_right _ (by omega)
          obtain ⟨i1, i2, i3⟩ := ih _ (by omega) (v + (u + 1)) (tstep other rest) rfl hb hm (by omega)
          exact ⟨.step hc (hr.si (by omega)) i1, i2.mono (by omega), fun _ => i3 hlt⟩
        · have e3 : tloop other (tstep other rest) = tstep other rest := by rw [tloop, dif_neg (fun z => hlt z.2)]
          rw [e3]
          exact ⟨.step hc (hr.si (by omega)) (.done (by omega)), hb.mono (by omega), fun _ => by rw [tstep_is]; exact less_u1 _⟩
      · have hlt : ¬ other.length ≤ (tstep other rest).length := by omega
        have e3 : tloop other (tstep other rest) = tstep other rest := by rw [tloop, dif_neg (fun z => hlt z.2)]
        rw [e3]
        have e1 : (u + 1) ≤ (n + 1 - other.length) * (u + 1) := by
          have := Nat.mul_le_mul_right (u + 1) (show 1 ≤ n + 1 - other.length by omega)
          omega
        exact ⟨.step hc (hr.si (by omega)) (.done (by omega)), hb.mono (by omega), fun _ => by rw [tstep_is]; exact less_u1 _⟩
    · rw [dif_neg (fun z => hc z.2)]
      exact ⟨.done (by omega), hr.mono (by omega), fun h => absurd h (by omega)⟩
/-! ### the bound's numbers -/
def aq : Nat → Nat
  | 0 => 1
  | 1 => 1
  | n + 2 => aq n + 2 * aq (n + 1)
theorem aq_pos : ∀ n, 1 ≤ aq n
  | 0 => Nat.le_refl 1
  | 1 => Nat.le_refl 1
  | n + 2 => by have := aq_pos n; rw [aq]; omega
theorem aq_succ (n : Nat) : aq n ≤ aq (n + 1) := by
  cases n with
  | zero => exact Nat.le_refl 1
  | succ n => rw [aq]; omega
theorem aq_mono {m n : Nat} (h : m ≤ n) : aq m ≤ aq n := by
  induction h with
  | refl => exact Nat.le_refl _
  | step h ih => exact Nat.le_trans ih (aq_succ _)
theorem aq_gap (r : Nat) : ∀ d : Nat, aq r + (d + 2) * aq (r + 1) ≤ aq (r + 1 + (d + 1))
  | 0 => by rw [show r + 1 + (0 + 1) = r + 2 by omega, aq]; omega
  | d + 1 => by
    have ih := aq_gap r d
    rw [show r + 1 + (d + 1 + 1) = (r + 1 + d) + 2 by omega, aq]
    rw [show r + 1 + (d + 1) = r + 1 + d + 1 by omega] at ih
    have := aq_mono (show r + 1 ≤ r + 1 + d + 1 by omega)
    rw [show d + 1 + 2 = (d + 2) + 1 by omega, Nat.succ_mul]
    have := aq_pos (r + 1 + d)
    omega
theorem aq_table : ∀ r : Fin 17, ∀ d : Fin 18, r.1 + 1 + d.1 ≤ 17 → aq r.1 + d.1 * aq (r.1 + 1) ≤ 941664 := by decide +kernel
theorem trest_bd {u v : Nat} {x y : List Int} (h0 : y ≠ []) (hy : Bd u y) (hx : Bd v x) (hl : y.length ≤ x.length) (hv : v + (x.length - y.length) * (u + 1) ≤ 67108864) : TRun y x ∧ Bd (v + (x.length + 1 - y.length) * (u + 1)) (trest x y) ∧ U1 (trest x y) := by
  obtain ⟨h1, h2, h3⟩ := tloop_bd h0 hy x.length v x rfl hx (by omega) hv
  exact ⟨h1, h2.neg, (h3 hl).neg⟩
/-- the sizes along the row -/
theorem rrun_of : ∀ (m : Nat) (x y : List Int) (u v : Nat), y.length = m → y.length < x.length → x.length ≤ 18 → Bd v x → Bd u y → U1 x → U1 y → v + 1 ≤ 64 * aq (18 - x.length) → u + 1 ≤ 64 * aq (18 - x.length + 1) →
    RRun x y ∧ (∀ r ∈ x :: rowLoop x y, Bd 42614848 r) ∧ (rowLoop x y).length ≤ y.length := by
  intro m
  induction m using Nat.strongRecOn with
  | _ m ih =>
    intro x y u v hm hlt hxl hx hy hx1 hu1 hv hu
    have hx16 : Bd 42614848 x ∨ x.length = 1 := by
      by_cases h : x.length = 1
      · exact .inr h
      · left
        have : aq (18 - x.length) ≤ aq 16 := aq_mono (by omega)
        have e : aq 16 = 665857 := by decide +kernel
        exact hx.mono (by omega)
    have hxb : Bd 42614848 x := by
      rcases hx16 with h | h
      · exact h
      · exact (hx1 h).mono (by decide)
    by_cases hy0 : y = []
    · subst hy0
      rw [rowLoop_nil]
      exact ⟨.done, fun r hr => by rw [List.mem_singleton.mp hr]; exact hxb, by simp⟩
    · have hyl := List.length_pos_iff.mpr hy0
      rw [rowLoop_ne hy0]
      -- the bits of y that count
      obtain ⟨u', hu', hb', hx'⟩ : ∃ u', u' + 1 ≤ 64 * aq (18 - x.length + 1) ∧ Bd u' y ∧ v + (x.length - y.length) * (u' + 1) ≤ 67108864 ∧ u' ≤ 42614848 := by
        by_cases h1 : y.length = 1
        · refine ⟨1, ?_, hu1 h1, ?_, by decide⟩
          · have := aq_pos (18 - x.length + 1); omega
          · have h2 : aq (18 - x.length) ≤ aq 16 := aq_mono (by omega)
            have e : aq 16 = 665857 := by decide +kernel
            omega
        · refine ⟨u, hu, hy, ?_, ?_⟩
          · have ht := aq_table ⟨18 - x.length, by omega⟩ ⟨x.length - y.length, by omega⟩ (by show 18 - x.length + 1 + (x.length - y.length) ≤ 17; omega)
            simp only at ht
            have h2 : (x.length - y.length) * (u + 1) ≤ (x.length - y.length) * (64 * aq (18 - x.length + 1)) := Nat.mul_le_mul_left _ hu
            have h3 : (x.length - y.length) * (64 * aq (18 - x.length + 1)) = 64 * ((x.length - y.length) * aq (18 - x.length + 1)) := by rw [← Nat.mul_assoc, Nat.mul_comm _ 64, Nat.mul_assoc]
            omega
          · have h2 : aq (18 - x.length + 1) ≤ aq 16 := aq_mono (by omega)
            have e : aq 16 = 665857 := by decide +kernel
            omega
      obtain ⟨hx', hu42⟩ := hx'
      obtain ⟨t1, t2, t3⟩ := trest_bd hy0 hb' hx (by omega) hx'
      have hg := aq_gap (18 - x.length) (x.length - y.length - 1)
      have hzl := trest_len (one := x) hy0
      obtain ⟨i1, i2, i3⟩ := ih (trest x y).length (by omega) y (trest x y) (v + (x.length + 1 - y.length) * (u' + 1)) u' rfl hzl (by omega) hb' t2 hu1 t3 (by
          have := aq_mono (show 18 - x.length + 1 ≤ 18 - y.length by omega)
          omega) (by
          rw [show x.length - y.length - 1 + 2 = x.length + 1 - y.length by omega, show 18 - x.length + 1 + (x.length - y.length - 1 + 1) = 18 - y.length + 1 by omega] at hg
          have h2 : (x.length + 1 - y.length) * (u' + 1) ≤ (x.length + 1 - y.length) * (64 * aq (18 - x.length + 1)) := Nat.mul_le_mul_left _ hu'
          have h3 : (x.length + 1 - y.length) * (64 * aq (18 - x.length + 1)) = 64 * ((x.length + 1 - y.length) * aq (18 - x.length + 1)) := by rw [← Nat.mul_assoc, Nat.mul_comm _ 64, Nat.mul_assoc]
          omega)
      refine ⟨.step hy0 (by omega) (by omega) (hb'.si (by omega)) t1 i1, fun r hr => ?_, ?_⟩
      · rcases List.mem_cons.mp hr with rfl | hr
        · exact hxb
        · exact i2 r hr
      · rw [List.length_cons]
        omega
end Mf
end

-- text S3
section
set_option autoImplicit false
set_option linter.all false
/-! S3: where a row starts: sizes of whole numbers and slopes. -/
namespace Mf
theorem lcm_dvd {M : Int} (l : List Rat) (h : ∀ c ∈ l, (c.den : Int) ∣ M) : lcmDen l ∣ M := by
  have key : ∀ (l : List Rat) (d : Int), 0 < d → d ∣ M → (∀ c ∈ l, (c.den : Int) ∣ M) → l.foldl (fun d c => d / (Int.gcd d c.den : Int) * c.den) d ∣ M := by
    intro l
    induction l with
    | nil => intro d _ h _; exact h
    | cons a l ih =>
      intro d hd h1 h2
      rw [List.foldl_cons]
      have ha := h2 a List.mem_cons_self
      have hg1 : (Int.gcd d a.den : Int) ∣ d := Int.gcd_dvd_left ..
      have hg2 : (Int.gcd d a.den : Int) ∣ (a.den : Int) := Int.gcd_dvd_right ..
      have had : (0 : Int) < (a.den : Int) := by have := a.den_pos; omega
      have hgp : (0 : Int) < (Int.gcd d a.den : Int) := by
        have := Int.gcd_pos_of_ne_zero_right d (show (a.den : Int) ≠ 0 by omega)
        omega
      obtain ⟨q, hq⟩ := hg1
      have hdq : d / (Int.gcd d a.den : Int) = q := by
        conv => lhs; lhs; rw [hq]
        exact Int.mul_ediv_cancel_left _ (by omega)
      have hq0 : 0 < q := by
        by_cases h : 0 < q
        · exact h
        · have := Int.mul_nonneg (show 0 ≤ (Int.gcd d a.den : Int) by omega) (show 0 ≤ -q by omega)
          rw [Int.mul_neg, ← hq] at this
          omega
      refine ih _ (by rw [hdq]; exact Int.mul_pos hq0 had) ?_ fun c hc => h2 c (List.mem_cons_of_mem _ hc)
      have e : d / (Int.gcd d a.den : Int) * a.den = (Int.lcm d a.den : Int) := by
        have h3 := Int.gcd_mul_lcm d (a.den : Int)
        have h4 : (Int.gcd d a.den : Int) * (Int.lcm d a.den : Int) = d * a.den := by
          have := congrArg (fun n : Nat => (n : Int)) h3
          simp only [Int.natCast_mul] at this
          rw [this]
          rw [show ((d.natAbs : Nat) : Int) = d by omega, show (((a.den : Int).natAbs : Nat) : Int) = (a.den : Int) by omega]
        rw [hdq]
        have h5 : (Int.gcd d a.den : Int) * (q * a.den) = (Int.gcd d a.den : Int) * (Int.lcm d a.den : Int) := by
          rw [h4, ← Int.mul_assoc, ← hq]
        exact Int.eq_of_mul_eq_mul_left (by omega) h5
      rw [e]
      exact Int.ofNat_dvd_left.mpr (Nat.lcm_dvd (Int.natAbs_dvd_natAbs.mpr h1) (Int.natAbs_dvd_natAbs.mpr ha))
  exact key l 1 (by decide) (Int.one_dvd M) h
theorem over_den {M : Nat} (hM : 0 < M) (z : Int) : (((z : Rat) / (M : Rat)).den : Int) ∣ (M : Int) := by
  rw [div_natCast]
  rw [(divInt_parts z (M : Int) (by omega)).2]
  exact Int.ediv_dvd_of_dvd (Int.gcd_dvd_right ..)
theorem over_dens {M : Nat} (hM : 0 < M) (zs : List Int) : ∀ c ∈ over M zs, (c.den : Int) ∣ (M : Int) := fun c hc => by
  obtain ⟨z, _, rfl⟩ := over_mem hc
  exact over_den hM z
theorem Sz.wok {M B : Nat} {l : List Rat} (h : Sz M B l) (n : Nat) (hn : n ≤ 67108864) (hB : B < 2 ^ n) (hM : M < 2 ^ n) (hl : l.length ≤ 1000) : WOk l := by
  have s1 := h.sf n hn hB hM
  obtain ⟨h0, zs, rfl, hz⟩ := h
  refine ⟨hl, s1, fun i => ?_⟩
  have hd : lcmDen ((over M zs).take i) ∣ (M : Int) := lcm_dvd _ fun c hc => over_dens h0 zs c (List.mem_of_mem_take hc)
  have hp := (lcm_pos ((over M zs).take i)).1
  have hle := Int.le_of_dvd (by omega) hd
  exact ⟨n, hn, by omega⟩
theorem whole_bd {M B u : Nat} {l : List Rat} (h : Sz M B l) (hB : B < 2 ^ u) : Bd u (whole l) := by
  obtain ⟨h0, zs, rfl, hz⟩ := h
  intro c hc
  unfold whole at hc
  obtain ⟨q, hq, rfl⟩ := List.mem_map.mp hc
  obtain ⟨z, hzm, rfl⟩ := over_mem hq
  have hzB : z.natAbs < 2 ^ u := Nat.lt_of_le_of_lt (Nat.le_trans (n1_mem hzm) hz) hB
  have hd : lcmDen (over M zs) ∣ (M : Int) := lcm_dvd _ (over_dens h0 zs)
  have hdc := (lcm_pos (over M zs)).2 _ hq
  have hp := (lcm_pos (over M zs)).1
  obtain ⟨t, ht⟩ := hd
  obtain ⟨s, hs⟩ := hdc
  have hnd := num_den ((z : Rat) / (M : Rat))
  have hm : (0 : Rat) < (M : Rat) := Rat.natCast_pos.mpr h0
  have hzM : (z : Rat) / (M : Rat) * (M : Rat) = (z : Rat) := Rat.div_mul_cancel (by grind)
  have had : (0 : Int) < (((z : Rat) / (M : Rat)).den : Int) := by have := ((z : Rat) / (M : Rat)).den_pos; omega
  generalize hqq : (z : Rat) / (M : Rat) = q at hs hnd hzM had hq ⊢
  rw [show lcmDen (over M zs) / (q.den : Int) = s by rw [hs]; exact Int.mul_ediv_cancel_left _ (by omega)]
  -- num * s * t = z
  have e1 : q.num * s * t = z := by
    have h1 : ((q.num * s * t : Int) : Rat) = (z : Rat) := by
      rw [← hzM, Rat.intCast_mul, Rat.intCast_mul, ← hnd]
      have h2 : (M : Rat) = ((M : Int) : Rat) := (Rat.intCast_natCast M).symm
      rw [h2, ht, hs, Rat.intCast_mul, Rat.intCast_mul, Rat.intCast_natCast]
      grind
    exact Rat.intCast_inj.mp h1
  have ht0 : t ≠ 0 := fun z0 => by rw [z0, Int.mul_zero] at ht; omega
  have e2 := congrArg Int.natAbs e1
  rw [Int.natAbs_mul] at e2
  have ht1 : 1 ≤ t.natAbs := by omega
  have := Nat.le_mul_of_pos_right (q.num * s).natAbs ht1
  omega
theorem Sz.sl {M : Nat} : ∀ (zs : List Int) (k : Nat), ∃ ws, Mf.sl k (over M zs) = over M ws ∧ n1 ws ≤ (k + zs.length) * n1 zs
  | [], k => ⟨[], rfl, by simp [n1]⟩
  | z :: zs, k => by
    obtain ⟨ws, h1, h2⟩ := Sz.sl (M := M) zs (k + 1)
    have e : over M (z :: zs) = (z : Rat) / (M : Rat) :: over M zs := rfl
    refine ⟨(k : Int) * z :: ws, ?_, ?_⟩
    · rw [e, sl_cons, h1]
      show _ = (((k : Int) * z : Int) : Rat) / (M : Rat) :: over M ws
      rw [Rat.intCast_mul, Rat.intCast_natCast, Rat.div_def, Rat.div_def, Rat.mul_assoc]
    · rw [n1_cons, n1_cons, Int.natAbs_mul, Int.natAbs_natCast, Nat.mul_add, List.length_cons]
      have h3 : k * z.natAbs ≤ (k + (zs.length + 1)) * z.natAbs := Nat.mul_le_mul_right _ (by omega)
      rw [show k + 1 + zs.length = k + (zs.length + 1) by omega] at h2
      omega
theorem n1_drop (zs : List Int) (j : Nat) : n1 (zs.drop j) ≤ n1 zs := by
  induction zs generalizing j with
  | nil => simp
  | cons a l ih =>
    cases j with
    | zero => exact Nat.le_refl _
    | succ j =>
      rw [List.drop_succ_cons, n1_cons]
      have := ih j
      omega
theorem Sz.slope {M B : Nat} {l : List Rat} (h : Sz M B l) : Sz M (l.length * B) (slope l) := by
  obtain ⟨h0, zs, rfl, hz⟩ := h
  obtain ⟨ws, h1, h2⟩ := Sz.sl (M := M) zs 0
  rw [slope_is, h1]
  have e : (over M ws).drop 1 = over M (ws.drop 1) := by unfold over; rw [List.map_drop]
  rw [e, over_trim h0]
  refine ⟨h0, _, rfl, Nat.le_trans (n1_trim _) (Nat.le_trans (n1_drop _ _) (Nat.le_trans h2 ?_))⟩
  rw [Nat.zero_add, over_len]
  exact Nat.mul_le_mul_left _ hz
theorem slope_len (l : List Rat) : (slope l).length ≤ l.length - 1 := by
  rw [slope_is]
  refine Nat.le_trans (trim_len _) ?_
  unfold sl
  simp
/-- a row that starts small -/
theorem srow_ok {l : List Rat} (hl0 : l ≠ []) (hl : l.length ≤ 18) (w1 : WOk l) (w2 : WOk (slope l)) (b1 : Bd 63 (less (whole l))) (b2 : Bd 63 (less (whole (slope l)))) : SRowOk l ∧ (∀ r ∈ srow l, Bd 42614848 r) ∧ (srow l).length ≤ 18 := by
  have hx : (less (whole l)).length = l.length := by rw [less_len, whole_len]
  have hy : (less (whole (slope l))).length = (slope l).length := by rw [less_len, whole_len]
  have hs := slope_len l
  have hp := List.length_pos_iff.mpr hl0
  have a1 := aq_pos (18 - (less (whole l)).length)
  have a2 := aq_pos (18 - (less (whole l)).length + 1)
  obtain ⟨r1, r2, r3⟩ := rrun_of _ (less (whole l)) (less (whole (slope l))) 63 63 rfl (by omega) (by omega) b1 b2 (less_u1 _) (less_u1 _) (by omega) (by omega)
  refine ⟨⟨w1, w2, r1⟩, r2, ?_⟩
  rw [srow_is, List.length_cons]
  omega
end Mf
end

-- text S4
section
set_option autoImplicit false
set_option linter.all false
/-! S4: signs at a fraction; the drawn polynomial's own row. -/
namespace Mf
theorem hfold {q : Rat} (hq : Sm q) {u : Nat} : ∀ (m : List Int) (f b : Int) (j : Nat), Bd u m → f.natAbs < 2 ^ (u + 1 + 41 * j) → b.natAbs < 2 ^ (1 + 40 * j) →
    (m.foldl (fun (fb : Int × Int) n => (fb.1 * q.num + n * fb.2, fb.2 * q.den)) (f, b)).1.natAbs < 2 ^ (u + 1 + 41 * (j + m.length)) ∧ (m.foldl (fun (fb : Int × Int) n => (fb.1 * q.num + n * fb.2, fb.2 * q.den)) (f, b)).2.natAbs < 2 ^ (1 + 40 * (j + m.length))
  | [], f, b, j, _, h1, h2 => ⟨h1, h2⟩
  | c :: m, f, b, j, hm, h1, h2 => by
    have hc := hm c List.mem_cons_self
    have hq1 := hq.1
    have hq2 := hq.2
    have hb2 : (b * q.den).natAbs < 2 ^ (1 + 40 * (j + 1)) := by
      rw [Int.natAbs_mul, Int.natAbs_natCast, show 1 + 40 * (j + 1) = (1 + 40 * j) + 40 by omega, Nat.pow_add]
      exact Nat.mul_lt_mul'' h2 hq2
    have hf2 : (f * q.num + c * b).natAbs < 2 ^ (u + 1 + 41 * (j + 1)) := by
      have t1 : (f * q.num).natAbs < 2 ^ (u + 1 + 41 * j) * 2 ^ 40 := by
        rw [Int.natAbs_mul]
        exact Nat.mul_lt_mul'' h1 hq1
      have t2 : (c * b).natAbs < 2 ^ u * 2 ^ (1 + 40 * j) := by
        rw [Int.natAbs_mul]
        exact Nat.mul_lt_mul'' hc h2
      have t3 : 2 ^ u * 2 ^ (1 + 40 * j) ≤ 2 ^ (u + 1 + 41 * j) * 2 ^ 40 := by
        rw [← Nat.pow_add, ← Nat.pow_add]
        exact Nat.pow_le_pow_right (by decide) (by omega)
      have t4 : 2 ^ (u + 1 + 41 * (j + 1)) = 2 ^ (u + 1 + 41 * j) * 2 ^ 40 + 2 ^ (u + 1 + 41 * j) * 2 ^ 40 := by
        rw [show u + 1 + 41 * (j + 1) = (u + 1 + 41 * j + 40) + 1 by omega, Nat.pow_succ, Nat.pow_add]
        omega
      have := Int.natAbs_add_le (f * q.num) (c * b)
      omega
    have ih := hfold hq m (f * q.num + c * b) (b * q.den) (j + 1) (fun d hd => hm d (List.mem_cons_of_mem _ hd)) hf2 hb2
    rw [List.foldl_cons, List.length_cons, show j + (m.length + 1) = j + 1 + m.length by omega]
    exact ih
theorem hok_of {q : Rat} (hq : Sm q) {l : List Int} (hb : Bd 42614848 l) (hl : l.length ≤ 18) : HOk l q := by
  refine ⟨by omega, hq.sf, hb.si (by decide), fun k => ?_⟩
  have h := hfold hq (u := 42614848) (l.reverse.take k) 0 1 0 (fun c hc => hb c (List.mem_reverse.mp (List.mem_of_mem_take hc))) (Nat.pow_pos (by decide)) (by decide)
  have hlen : (l.reverse.take k).length ≤ 18 := by rw [List.length_take, List.length_reverse]; omega
  exact ⟨⟨_, by omega, h.1⟩, ⟨_, by omega, h.2⟩⟩
/-- each list of a row is no longer than its first -/
theorem row_len : ∀ (n : Nat) (x y : List Int), y.length = n → y.length ≤ x.length → ∀ r ∈ x :: rowLoop x y, r.length ≤ x.length := by
  intro n
  induction n using Nat.strongRecOn with
  | _ n ih =>
    intro x y hn hxy r hr
    by_cases h : y = []
    · subst h
      rw [rowLoop_nil] at hr
      rw [List.mem_singleton.mp hr]
      exact Nat.le_refl _
    · rw [rowLoop_ne h] at hr
      rcases List.mem_cons.mp hr with rfl | hr
      · exact Nat.le_refl _
      · have hz := trest_len (one := x) h
        exact Nat.le_trans (ih _ (by rw [← hn]; exact hz) y (trest x y) rfl (Nat.le_of_lt hz) r hr) hxy
theorem srow_len {l : List Rat} : ∀ r ∈ srow l, r.length ≤ l.length := fun r hr => by
  have hx : (less (whole l)).length = l.length := by rw [less_len, whole_len]
  have hy : (less (whole (slope l))).length = (slope l).length := by rw [less_len, whole_len]
  have hs := slope_len l
  rw [← hx]
  exact row_len _ (less (whole l)) (less (whole (slope l))) rfl (by omega) r hr
theorem good_pB18 {c : Rat} {L : List Fa} (h : Good c L) : 18 * (7 * pB L) < 2 ^ 63 := by
  rw [pB_is]
  have h1 : 19 ^ L.countP isLin ≤ 19 ^ 10 := Nat.pow_le_pow_right (by decide) h.nl
  have h2 : 11 ^ L.countP isSq ≤ 11 ^ 2 := Nat.pow_le_pow_right (by decide) h.ns
  have h3 : 5 ^ L.countP isQ ≤ 5 ^ 1 := Nat.pow_le_pow_right (by decide) h.nq
  have h4 : 16 ^ L.countP isX ≤ 16 ^ 1 := Nat.pow_le_pow_right (by decide) h.nx
  have h5 := Nat.mul_le_mul (Nat.mul_le_mul (Nat.mul_le_mul h1 h2) h3) h4
  have h6 : 18 * (7 * (19 ^ 10 * 11 ^ 2 * 5 ^ 1 * 16 ^ 1)) < 2 ^ 63 := by decide
  omega
theorem good_sz18 {c : Rat} {L : List Fa} (h : Good c L) : ∃ M, M < 2 ^ 60 ∧ ∃ B, 18 * B < 2 ^ 63 ∧ Sz M B (mkp c L) := by
  obtain ⟨M, hM, hS⟩ := mkp_sz h.c L h.f
  refine ⟨M, Nat.lt_of_le_of_lt hM ?_, _, good_pB18 h, hS⟩
  have hl : L.length ≤ 14 := by
    have := fa_count L
    have := h.nl
    have := h.ns
    have := h.nq
    have := h.nx
    omega
  have h2 : 7 ^ L.length ≤ 7 ^ 14 := Nat.pow_le_pow_right (by decide) hl
  have h3 : 5 * 7 ^ 14 < 2 ^ 60 := by decide
  omega
/-- the drawn polynomial's own row -/
theorem mkp_row {c : Rat} {L : List Fa} (h : Good c L) (hl : (mkp c L).length < 19) : SRowOk (mkp c L) ∧ (∀ r ∈ srow (mkp c L), Bd 42614848 r) ∧ (srow (mkp c L)).length ≤ 18 := by
  obtain ⟨M, hM, B, hB, hS⟩ := good_sz18 h
  have hs := hS.slope
  have hlB : (mkp c L).length * B < 2 ^ 63 := Nat.lt_of_le_of_lt (Nat.mul_le_mul_right B (show (mkp c L).length ≤ 18 by omega)) hB
  have hsl := slope_len (mkp c L)
  have hM63 : M < 2 ^ 63 := Nat.lt_trans hM (by decide)
  have hB63 : B < 2 ^ 63 := by omega
  exact srow_ok (mkp_ne h) (by omega) (hS.wok 63 (by decide) hB63 hM63 (by omega)) (hs.wok 63 (by decide) hlB hM63 (by omega)) (whole_bd hS hB63).less (whole_bd hs hlB).less
end Mf
end

-- text S5
section
set_option autoImplicit false
set_option linter.all false
/-! S5: lists without a common part are the least ones. -/
namespace Mf
theorem dvd_gcdAll {n : Nat} (l : List Int) (h : ∀ c ∈ l, n ∣ c.natAbs) : n ∣ gcdAll l := by
  have key : ∀ (l : List Int) (g : Nat), n ∣ g → (∀ c ∈ l, n ∣ c.natAbs) → n ∣ l.foldl (fun g x => Nat.gcd g x.natAbs) g := by
    intro l
    induction l with
    | nil => intro g hg _; exact hg
    | cons a l ih =>
      intro g hg h
      rw [List.foldl_cons]
      exact ih _ (Nat.dvd_gcd hg (h a List.mem_cons_self)) fun c hc => h c (List.mem_cons_of_mem _ hc)
  exact key l 0 (Nat.dvd_zero n) h
/-- no common part -/
def Pm (l : List Int) : Prop := gcdAll l ≤ 1
theorem less_pm (l : List Int) : Pm (less l) := by
  unfold Pm
  by_cases h : 1 < gcdAll l
  · have e : less l = l.map fun x => x / (gcdAll l : Int) := if_pos h
    have h1 : gcdAll (less l) * gcdAll l ∣ gcdAll l := dvd_gcdAll l fun c hc => by
      have h2 := gcdAll_dvd (less l) (c / (gcdAll l : Int)) (by rw [e]; exact List.mem_map_of_mem hc)
      have h3 := gcdAll_dvd l c hc
      have h4 : ((gcdAll (less l) : Int) * (gcdAll l : Int)) ∣ c := by
        have := Int.mul_dvd_mul_right (gcdAll l : Int) h2
        rwa [Int.ediv_mul_cancel h3] at this
      rw [← Int.natCast_mul] at h4
      exact Int.ofNat_dvd_left.mp h4
    obtain ⟨k, hk⟩ := h1
    have h5 : gcdAll l * (gcdAll (less l) * k) = gcdAll l * 1 := by
      rw [Nat.mul_one]
      conv => rhs; rw [hk]
      rw [Nat.mul_comm (gcdAll (less l)) (gcdAll l), Nat.mul_assoc]
    have h6 := Nat.eq_of_mul_eq_mul_left (by omega) h5
    have h7 := Nat.eq_one_of_mul_eq_one_right h6
    omega
  · have e : less l = l := if_neg h
    rw [e]
    omega
theorem gcdAll_neg (l : List Int) : gcdAll (l.map fun m => -m) = gcdAll l := by
  have key : ∀ (l : List Int) (g : Nat), (l.map fun m => -m).foldl (fun g x => Nat.gcd g x.natAbs) g = l.foldl (fun g x => Nat.gcd g x.natAbs) g := by
    intro l
    induction l with
    | nil => intro g; rfl
    | cons a l ih => intro g; rw [List.map_cons, List.foldl_cons, List.foldl_cons, Int.natAbs_neg, ih]
  exact key l 0
theorem Pm.neg {l : List Int} (h : Pm l) : Pm (l.map fun m => -m) := by unfold Pm; rw [gcdAll_neg]; exact h
theorem prim {u : Nat} {A b : List Int} (hA : Pm A) (zA : Nz A) (zb : Nz b) (hb : Bd u b) {t : Rat} (ht : t ≠ 0) (h : ∀ x, evI A x = t * evI b x) : Bd u A := by
  by_cases hA0 : A = []
  · rw [hA0]; intro c hc; simp at hc
  by_cases hb0 : b = []
  · exfalso
    obtain ⟨t1, t2, t3⟩ := getLast_cst zA hA0
    have : trim (cst A) = [] := trim_zero_of _ fun x _ _ => by
      have := h x
      rw [hb0, evI_nil] at this
      show evI A x = 0
      rw [this]; grind
    rw [t1] at this
    exact t2 this
  obtain ⟨a1, a2, a3⟩ := getLast_cst zA hA0
  obtain ⟨b1, b2, b3⟩ := getLast_cst zb hb0
  have hps : trim (psc t (cst b)) = psc t (cst b) := trim_of_last (by rw [psc_last]; exact fun z => (Rat.mul_eq_zero.mp z).elim ht b3)
  have e : cst A = psc t (cst b) := by
    rw [← a1, ← hps]
    exact trim_eq_of _ _ fun x _ _ => by rw [ev_psc]; exact h x
  have hent : ∀ c ∈ A, ∃ d ∈ b, (t.den : Int) * c = t.num * d := by
    intro c hc
    have : (c : Rat) ∈ cst A := List.mem_map_of_mem hc
    rw [e] at this
    obtain ⟨y, hy, hyc⟩ := List.mem_map.mp this
    obtain ⟨d, hd, rfl⟩ := List.mem_map.mp hy
    refine ⟨d, hd, ?_⟩
    have h1 : (((t.den : Int) * c : Int) : Rat) = ((t.num * d : Int) : Rat) := by
      rw [Rat.intCast_mul, Rat.intCast_mul, Rat.intCast_natCast, ← num_den t, ← hyc]
      grind
    exact Rat.intCast_inj.mp h1
  have hdv : ∀ c ∈ A, t.num.natAbs ∣ c.natAbs := fun c hc => by
    obtain ⟨d, _, hd⟩ := hent c hc
    have h1 := congrArg Int.natAbs hd
    rw [Int.natAbs_mul, Int.natAbs_mul, Int.natAbs_natCast] at h1
    exact Nat.Coprime.dvd_of_dvd_mul_left t.reduced ⟨d.natAbs, h1⟩
  have hn := dvd_gcdAll A hdv
  have hd1 := t.den_pos
  intro c hc
  obtain ⟨d, hd, hcd⟩ := hent c hc
  have h1 := congrArg Int.natAbs hcd
  rw [Int.natAbs_mul, Int.natAbs_mul, Int.natAbs_natCast] at h1
  have hbd := hb d hd
  by_cases hg : gcdAll A = 0
  · have := gcdAll_dvd A c hc
    rw [hg] at this
    have : c = 0 := Int.zero_dvd.mp this
    rw [this]
    exact Nat.pow_pos (by decide)
  · have h2 := Nat.le_of_dvd (by omega) hn
    have hA : gcdAll A ≤ 1 := hA
    have h3 : t.num.natAbs * d.natAbs ≤ d.natAbs := by
      have := Nat.mul_le_mul_right d.natAbs (show t.num.natAbs ≤ 1 by omega)
      omega
    have h4 : c.natAbs ≤ t.den * c.natAbs := Nat.le_mul_of_pos_left _ hd1
    omega
end Mf
end

-- text S6
section
set_option autoImplicit false
set_option linter.all false
/-! S6: the row's last list; the products as drawn polynomials. -/
namespace Mf
theorem tloop_pm {other : List Int} : ∀ (n : Nat) (rest : List Int), rest.length = n → Pm rest → Pm (tloop other rest) := by
  intro n
  induction n using Nat.strongRecOn with
  | _ n ih =>
    intro rest hn h
    rw [tloop]
    split
    · rename_i hc
      exact ih _ (by rw [← hn]; exact tstep_len hc.1 hc.2) _ rfl (by rw [tstep_is]; exact less_pm _)
    · exact h
theorem rlast_pm : ∀ (n : Nat) (x y : List Int), y.length = n → Pm x → Pm y → Pm (rlast x y) := by
  intro n
  induction n using Nat.strongRecOn with
  | _ n ih =>
    intro x y hn hx hy
    by_cases h : y = []
    · subst h
      rw [rlast_nil]
      exact hx
    · rw [rlast_cons h]
      exact ih _ (by rw [← hn]; exact trest_len h) y (trest x y) rfl hy (tloop_pm _ x rfl hx).neg
theorem ev_mkp' (c : Rat) (L : List Fa) (x : Rat) : ev (mkp c L) x = c * (L.map fun f => fv f x).foldr (· * ·) 1 := by
  have key : ∀ (L : List Fa) (p : List Rat), ev (L.foldl (fun p f => lprod p (fpoly f)) p) x = ev p x * (L.map fun f => fv f x).foldr (· * ·) 1 := by
    intro L
    induction L with
    | nil => intro p; show ev p x = ev p x * 1; grind
    | cons f L ih =>
      intro p
      rw [List.foldl_cons, ih, ev_lprod]
      show ev p x * fv f x * _ = ev p x * (fv f x * _)
      grind
  have := key L [c]
  rw [show mkp c L = L.foldl (fun p f => lprod p (fpoly f)) [c] from rfl, this]
  show (c + x * 0) * _ = c * _
  grind
theorem pE_mkp (e : EM) (x : Rat) : pE e x = ev (mkp 1 (keys e)) x := by
  rw [ev_mkp']
  have : pE e x = ((keys e).map fun f => fv f x).foldr (· * ·) 1 := by
    induction e with
    | nil => rfl
    | cons p r ih => show fv p.1 x * pE r x = fv p.1 x * _; rw [ih]; rfl
  rw [this]; grind
/-- every factor once less -/
def lower : EM → List Fa
  | [] => []
  | (f, m) :: r => List.replicate (m - 1) f ++ lower r
theorem prod_append (a b : List Rat) : (a ++ b).foldr (· * ·) 1 = a.foldr (· * ·) 1 * b.foldr (· * ·) 1 := by
  induction a with
  | nil => show _ = 1 * _; grind
  | cons x a ih =>
    show x * (a ++ b).foldr (· * ·) 1 = x * a.foldr (· * ·) 1 * _
    rw [ih]; grind
theorem prod_rep (y : Rat) : ∀ n : Nat, (List.replicate n y).foldr (· * ·) 1 = y ^ n
  | 0 => by rw [Rat.pow_zero]; rfl
  | n + 1 => by
    rw [List.replicate_succ, Rat.pow_succ]
    show y * (List.replicate n y).foldr (· * ·) 1 = _
    rw [prod_rep y n]; grind
theorem dE_mkp (e : EM) (x : Rat) : dE e x = ev (mkp 1 (lower e)) x := by
  rw [ev_mkp']
  have : dE e x = ((lower e).map fun f => fv f x).foldr (· * ·) 1 := by
    induction e with
    | nil => rfl
    | cons p r ih =>
      obtain ⟨f, m⟩ := p
      show fv f x ^ (m - 1) * dE r x = ((List.replicate (m - 1) f ++ lower r).map fun f => fv f x).foldr (· * ·) 1
      rw [List.map_append, List.map_replicate, prod_append, prod_rep, ih]
  rw [this]; grind
def cnt (p : Fa → Bool) : EM → Nat
  | [] => 0
  | (f, m) :: r => (if p f = true then m else 0) + cnt p r
theorem cnt_madd (p : Fa → Bool) (f : Fa) : ∀ e : EM, cnt p (madd e f) = cnt p e + (if p f = true then 1 else 0)
  | [] => by simp [madd, cnt]
  | (g, m) :: r => by
    rw [madd]
    split
    · rename_i h
      subst h
      simp only [cnt]
      split <;> omega
    · simp only [cnt]
      rw [cnt_madd p f r]
      omega
theorem cnt_em (p : Fa → Bool) (L : List Fa) : cnt p (em L) = L.countP p := by
  have key : ∀ (L : List Fa) (e : EM), cnt p (L.foldl madd e) = cnt p e + L.countP p := by
    intro L
    induction L with
    | nil => intro e; simp
    | cons f L ih =>
      intro e
      rw [List.foldl_cons, ih, cnt_madd, List.countP_cons]
      omega
  have := key L []
  rw [em, this]
  simp [cnt]
theorem cnt_keys (p : Fa → Bool) : ∀ e : EM, pos e → (keys e).countP p ≤ cnt p e
  | [], _ => by simp [keys]
  | (f, m) :: r, h => by
    have ih := cnt_keys p r fun q hq => h q (List.mem_cons_of_mem _ hq)
    have hm : 1 ≤ m := h (f, m) List.mem_cons_self
    show (f :: keys r).countP p ≤ (if p f = true then m else 0) + cnt p r
    rw [List.countP_cons]
    split <;> omega
theorem cnt_lower (p : Fa → Bool) : ∀ e : EM, (lower e).countP p ≤ cnt p e
  | [] => by simp [lower]
  | (f, m) :: r => by
    have ih := cnt_lower p r
    show (List.replicate (m - 1) f ++ lower r).countP p ≤ (if p f = true then m else 0) + cnt p r
    rw [List.countP_append, List.countP_replicate]
    split <;> omega
theorem lower_mem : ∀ (e : EM) (f : Fa), f ∈ lower e → f ∈ keys e
  | [], f, h => h
  | (g, m) :: r, f, h => by
    rcases List.mem_append.mp h with h | h
    · rw [List.eq_of_mem_replicate h]
      exact List.mem_cons_self
    · exact List.mem_cons_of_mem _ (lower_mem r f h)
theorem cok_1 : cok 1 := ⟨1, 1, by decide +kernel, .inl rfl, .inl rfl⟩
theorem good_keys {c : Rat} {L : List Fa} (h : Good c L) : Good 1 (keys (em L)) := by
  obtain ⟨h1, h2, h3⟩ := em_keys L
  have k : ∀ p : Fa → Bool, (keys (em L)).countP p ≤ L.countP p := fun p => by have := cnt_keys p (em L) h1; rwa [cnt_em] at this
  exact ⟨cok_1, fun f hf => h.f f ((h3 f).mp hf), Nat.le_trans (k _) h.nl, Nat.le_trans (k _) h.ns, Nat.le_trans (k _) h.nq, Nat.le_trans (k _) h.nx⟩
theorem good_lower {c : Rat} {L : List Fa} (h : Good c L) : Good 1 (lower (em L)) := by
  obtain ⟨h1, h2, h3⟩ := em_keys L
  have k : ∀ p : Fa → Bool, (lower (em L)).countP p ≤ L.countP p := fun p => by have := cnt_lower p (em L); rwa [cnt_em] at this
  exact ⟨cok_1, fun f hf => h.f f ((h3 f).mp (lower_mem _ _ hf)), Nat.le_trans (k _) h.nl, Nat.le_trans (k _) h.ns, Nat.le_trans (k _) h.nq, Nat.le_trans (k _) h.nx⟩
end Mf
end

-- text S7
section
set_option autoImplicit false
set_option linter.all false
/-! S7: the quotient's row starts small. -/
namespace Mf
theorem evI_over {M : Nat} (hM : 0 < M) (zs : List Int) (x : Rat) : evI zs x = (M : Rat) * ev (over M zs) x := by
  have hm : (0 : Rat) < (M : Rat) := Rat.natCast_pos.mpr hM
  induction zs with
  | nil => show (0 : Rat) = M * 0; grind
  | cons z zs ih =>
    rw [evI_cons, ih]
    show _ = (M : Rat) * ((z : Rat) / (M : Rat) + x * ev (over M zs) x)
    have : (z : Rat) / (M : Rat) * (M : Rat) = (z : Rat) := Rat.div_mul_cancel (by grind)
    grind
theorem sz_int {M B u : Nat} {l : List Rat} (h : Sz M B l) (hB : B < 2 ^ u) : ∃ zs, Nz zs ∧ (∀ x, evI zs x = (M : Rat) * ev l x) ∧ Bd u zs := by
  obtain ⟨h0, zs, rfl, hz⟩ := h
  refine ⟨trim zs, Nz.trim zs, fun x => by rw [evI_trim, evI_over h0], fun c hc => ?_⟩
  exact Nat.lt_of_le_of_lt (Nat.le_trans (n1_mem (trim_mem hc)) hz) hB
/-- a list that is a constant times a small one: its whole numbers are small -/
theorem start_bd {M B u : Nat} {l m : List Rat} (htl : trim l = l) {k : Rat} (hk : k ≠ 0) (hl : ∀ x, ev l x = k * ev m x) (h : Sz M B m) (hB : B < 2 ^ u) : Bd u (less (whole l)) := by
  obtain ⟨zs, z1, z2, z3⟩ := sz_int h hB
  obtain ⟨k0, hk0, e0⟩ := start_ev l
  have hm : (0 : Rat) < (M : Rat) := Rat.natCast_pos.mpr h.1
  have mm : (M : Rat)⁻¹ * (M : Rat) = 1 := Rat.inv_mul_cancel _ (by grind)
  refine prim (less_pm _) (start_nz htl) z1 z3 (t := k0 * k * (M : Rat)⁻¹) (fun z => ?_) fun x => ?_
  · rcases Rat.mul_eq_zero.mp z with z | z
    · rcases Rat.mul_eq_zero.mp z with z | z
      · grind
      · exact hk z
    · rw [z] at mm; grind
  · rw [e0, hl, z2]
    have : k0 * k * (M : Rat)⁻¹ * ((M : Rat) * ev m x) = k0 * k * ((M : Rat)⁻¹ * (M : Rat)) * ev m x := by grind
    rw [this, mm]; grind
theorem slope_sc {l m : List Rat} {k : Rat} (hl : ∀ x, ev l x = k * ev m x) (x : Rat) : ev (slope l) x = k * ev (slope m) x := by
  have h2 : HasD (ev l) fun x => k * ev (slope m) x := ((HasD.const k).mul (hasD_slope m) (Pf.const k) (Pf.ev m) (Pf.const 0) (Pf.ev _)).congr hl fun x => by grind
  exact (hasD_slope l).unique h2 x
end Mf
end

-- text S8
section
set_option autoImplicit false
set_option linter.all false
/-! S8: sizes of multiples; the division's sizes. -/
namespace Mf
theorem n1_mul (a : Int) (zs : List Int) : n1 (zs.map fun z => a * z) = a.natAbs * n1 zs := by
  induction zs with
  | nil => rfl
  | cons z zs ih => rw [List.map_cons, n1_cons, n1_cons, ih, Int.natAbs_mul, Nat.mul_add]
theorem sz_psc {M B : Nat} {m : List Rat} (k : Rat) (h : Sz M B m) : Sz (k.den * M) (k.num.natAbs * B) (psc k m) := by
  obtain ⟨h0, zs, rfl, hz⟩ := h
  refine ⟨Nat.mul_pos k.den_pos h0, zs.map fun z => k.num * z, ?_, by rw [n1_mul]; exact Nat.mul_le_mul_left _ hz⟩
  unfold psc over
  rw [List.map_map, List.map_map]
  refine List.map_congr_left fun z _ => ?_
  show k * ((z : Rat) / (M : Rat)) = ((k.num * z : Int) : Rat) / ((k.den * M : Nat) : Rat)
  have h1 := div_mul_div k.num z k.den M
  rw [self_div] at h1
  exact h1
theorem eq_psc {l m : List Rat} (htl : trim l = l) (htm : trim m = m) {k : Rat} (hk : k ≠ 0) (h : ∀ x, ev l x = k * ev m x) : l = psc k m := by
  have e : trim l = trim (psc k m) := trim_eq_of _ _ fun x _ _ => by rw [ev_psc]; exact h x
  rw [htl] at e
  by_cases hm : m = []
  · rw [e, hm]; rfl
  · have hl := last_ne (l := m) (by rw [htm]; exact hm)
    rw [htm] at hl
    rw [e]
    exact trim_of_last (by rw [psc_last]; exact fun z => (Rat.mul_eq_zero.mp z).elim hk hl)
end Mf
end

-- text S9
section
set_option autoImplicit false
set_option linter.all false
/-! S9: the division's steps. -/
namespace Mf
theorem n1_append (a b : List Int) : n1 (a ++ b) = n1 a + n1 b := by
  induction a with
  | nil => show n1 b = 0 + n1 b; omega
  | cons x a ih => rw [List.cons_append, n1_cons, n1_cons, ih]; omega
theorem n1_dropLast (l : List Int) : n1 l.dropLast ≤ n1 l := by
  rw [List.dropLast_eq_take]
  exact n1_take l _
theorem n1_zip (s b : Int) : ∀ p q : List Int, n1 (List.zipWith (fun m i => s * m - b * i) p q) ≤ s.natAbs * n1 p + b.natAbs * n1 q
  | [], q => by simp [n1]
  | m :: p, [] => by simp [n1]
  | m :: p, i :: q => by
    have ih := n1_zip s b p q
    rw [List.zipWith_cons_cons, n1_cons, n1_cons, n1_cons, Nat.mul_add, Nat.mul_add]
    have h := Int.natAbs_sub_le (s * m) (b * i)
    rw [Int.natAbs_mul, Int.natAbs_mul] at h
    omega
theorem n1_split (l : List Int) (j : Nat) : n1 (l.take j) + n1 (l.drop j) = n1 l := by
  rw [← n1_append, List.take_append_drop]
theorem n1_last (l : List Int) : (l.getLastD 0).natAbs ≤ n1 l := by
  by_cases h : l = []
  · rw [h]; exact Nat.le_refl 0
  · exact n1_mem (getLastD_mem h 0)
theorem raw_n1 (o rs : List Int) : n1 (raw o rs) ≤ 2 * (n1 rs * n1 o) := by
  unfold raw
  rw [n1_append, n1_mul]
  have h1 := n1_dropLast (List.zipWith (fun m i => ((o.getLastD 0).natAbs : Int) * m - ((if o.getLastD 0 > 0 then 1 else -1) * rs.getLastD 0) * i) (rs.drop (rs.length - o.length)) o)
  have h2 := n1_zip ((o.getLastD 0).natAbs : Int) ((if o.getLastD 0 > 0 then 1 else -1) * rs.getLastD 0) (rs.drop (rs.length - o.length)) o
  have h3 := n1_split rs (rs.length - o.length)
  have hby : (((if o.getLastD 0 > 0 then 1 else -1) * rs.getLastD 0) : Int).natAbs = (rs.getLastD 0).natAbs := by
    split
    · rw [Int.one_mul]
    · rw [Int.neg_mul, Int.one_mul, Int.natAbs_neg]
  rw [hby, Int.natAbs_natCast] at h2
  rw [Int.natAbs_natCast]
  have h4 : (o.getLastD 0).natAbs * n1 (rs.take (rs.length - o.length)) + (o.getLastD 0).natAbs * n1 (rs.drop (rs.length - o.length)) = (o.getLastD 0).natAbs * n1 rs := by rw [← Nat.mul_add, h3]
  have h5 : (o.getLastD 0).natAbs * n1 rs ≤ n1 o * n1 rs := Nat.mul_le_mul_right _ (n1_last o)
  have h6 : (rs.getLastD 0).natAbs * n1 o ≤ n1 rs * n1 o := Nat.mul_le_mul_right _ (n1_last rs)
  rw [Nat.mul_comm (n1 o)] at h5
  omega
end Mf
end

-- text S10
section
set_option autoImplicit false
set_option linter.all false
namespace Mf
theorem last_over (M : Nat) (zs : List Int) : (over M zs).getLastD 0 = ((zs.getLastD 0 : Int) : Rat) / (M : Rat) := by
  unfold over
  rw [List.getLastD_eq_getLast?, List.getLastD_eq_getLast?, List.getLast?_map]
  cases zs.getLast? with
  | none =>
    show (0 : Rat) = ((0 : Int) : Rat) / (M : Rat)
    rw [show ((0 : Int) : Rat) = 0 from rfl, Rat.div_def, Rat.zero_mul]
  | some x => rfl
theorem last_cst (o : List Int) : (cst o).getLastD 0 = ((o.getLastD 0 : Int) : Rat) := by
  unfold cst
  rw [List.getLastD_eq_getLast?, List.getLastD_eq_getLast?, List.getLast?_map]
  cases o.getLast? with
  | none => rfl
  | some x => rfl
theorem abs_sign (z : Int) : ((z.natAbs : Nat) : Int) = (if z > 0 then 1 else -1) * z := by split <;> omega
theorem pstep_over {N : Nat} (hN : 0 < N) {o rs : List Int} (h0 : o ≠ []) (hl : o.getLastD 0 ≠ 0) (h : o.length ≤ rs.length) : pstep (cst o) (over N rs) = over (N * (o.getLastD 0).natAbs) (trim (raw o rs)) := by
  have ha : 0 < (o.getLastD 0).natAbs := by omega
  rw [← over_trim (Nat.mul_pos hN ha)]
  unfold pstep raw
  simp only
  rw [last_over, last_cst, over_len, show (cst o).length = o.length by unfold cst; simp]
  congr 1
  generalize hom : o.getLastD 0 = om at hl ha
  generalize rs.getLastD 0 = rn
  have hNq : (0 : Rat) < (N : Rat) := Rat.natCast_pos.mpr hN
  have hom0 : ((om : Int) : Rat) ≠ 0 := fun z => hl (Rat.intCast_inj.mp (z.trans rfl))
  have haq : ((om.natAbs : Nat) : Rat) ≠ 0 := by have := Rat.natCast_pos.mpr ha; grind
  have inv1 : (N : Rat)⁻¹ * (N : Rat) = 1 := Rat.inv_mul_cancel _ (by grind)
  have inv2 : ((om.natAbs : Nat) : Rat)⁻¹ * ((om.natAbs : Nat) : Rat) = 1 := Rat.inv_mul_cancel _ haq
  have inv3 : ((om : Int) : Rat)⁻¹ * ((om : Int) : Rat) = 1 := Rat.inv_mul_cancel _ hom0
  have eM : ((N * om.natAbs : Nat) : Rat) = (N : Rat) * ((om.natAbs : Nat) : Rat) := Rat.natCast_mul _ _
  have eI : ((N * om.natAbs : Nat) : Rat)⁻¹ = (N : Rat)⁻¹ * ((om.natAbs : Nat) : Rat)⁻¹ := by rw [eM, Rat.inv_mul_rev, Rat.mul_comm]
  have e1 : ∀ r : Int, (r : Rat) / (N : Rat) = (((om.natAbs : Int) * r : Int) : Rat) / ((N * om.natAbs : Nat) : Rat) := fun r => by
    rw [Rat.div_def, Rat.div_def, eI, Rat.intCast_mul, Rat.intCast_natCast]
    have : ((om.natAbs : Nat) : Rat) * (r : Rat) * ((N : Rat)⁻¹ * ((om.natAbs : Nat) : Rat)⁻¹) = (((om.natAbs : Nat) : Rat)⁻¹ * ((om.natAbs : Nat) : Rat)) * ((r : Rat) * (N : Rat)⁻¹) := by grind
    rw [this, inv2]; grind
  have es : ((om.natAbs : Nat) : Rat) = (((if om > 0 then 1 else -1 : Int)) : Rat) * ((om : Int) : Rat) := by
    rw [← Rat.intCast_mul, ← abs_sign, Rat.intCast_natCast]
  have ec : ((om : Int) : Rat)⁻¹ = (((if om > 0 then 1 else -1 : Int)) : Rat) * ((om.natAbs : Nat) : Rat)⁻¹ := by
    have h1 : ((om.natAbs : Nat) : Rat)⁻¹ * ((((if om > 0 then 1 else -1 : Int)) : Rat) * ((om : Int) : Rat)) = 1 := by rw [← es]; exact inv2
    have : ((om : Int) : Rat)⁻¹ = (((om.natAbs : Nat) : Rat)⁻¹ * ((((if om > 0 then 1 else -1 : Int)) : Rat) * ((om : Int) : Rat))) * ((om : Int) : Rat)⁻¹ := by rw [h1]; grind
    rw [this]
    have : (((om.natAbs : Nat) : Rat)⁻¹ * ((((if om > 0 then 1 else -1 : Int)) : Rat) * ((om : Int) : Rat))) * ((om : Int) : Rat)⁻¹ = (((if om > 0 then 1 else -1 : Int)) : Rat) * ((om.natAbs : Nat) : Rat)⁻¹ * (((om : Int) : Rat)⁻¹ * ((om : Int) : Rat)) := by grind
    rw [this, inv3]; grind
  have e2 : ∀ r i : Int, (r : Rat) / (N : Rat) - (rn : Rat) / (N : Rat) / ((om : Int) : Rat) * (i : Rat) = (((om.natAbs : Int) * r - (if om > 0 then 1 else -1) * rn * i : Int) : Rat) / ((N * om.natAbs : Nat) : Rat) := fun r i => by
    rw [e1 r, Rat.intCast_sub, Rat.div_def, Rat.div_def, Rat.div_def, Rat.div_def, ec, eI, Rat.intCast_mul ((if om > 0 then 1 else -1) * rn) i, Rat.intCast_mul (if om > 0 then 1 else -1) rn]
    grind
  unfold over
  rw [List.map_append, List.map_map, ← List.map_take, ← List.map_drop, List.map_dropLast, List.map_zipWith]
  unfold cst
  rw [List.zipWith_map]
  congr 1
  · exact List.map_congr_left fun r _ => e1 r
  · congr 1
    congr 1
    funext r i
    exact e2 r i
end Mf
end

-- text S11
section
set_option autoImplicit false
set_option linter.all false
/-! S11: the division stays small. -/
namespace Mf
theorem by_over {N : Nat} (hN : 0 < N) {om : Int} (hl : om ≠ 0) (rn : Int) : (rn : Rat) / (N : Rat) / ((om : Int) : Rat) = (((if om > 0 then 1 else -1) * rn : Int) : Rat) / ((N * om.natAbs : Nat) : Rat) := by
  have ha : 0 < om.natAbs := by omega
  have hNq : (0 : Rat) < (N : Rat) := Rat.natCast_pos.mpr hN
  have haq : (0 : Rat) < ((om.natAbs : Nat) : Rat) := Rat.natCast_pos.mpr ha
  have hMq : (0 : Rat) < ((N * om.natAbs : Nat) : Rat) := Rat.natCast_pos.mpr (Nat.mul_pos hN ha)
  have hom0 : ((om : Int) : Rat) ≠ 0 := fun z => hl (Rat.intCast_inj.mp (z.trans rfl))
  have e1 : (rn : Rat) / (N : Rat) / ((om : Int) : Rat) * ((om : Int) : Rat) = (rn : Rat) / (N : Rat) := Rat.div_mul_cancel hom0
  have e2 : (rn : Rat) / (N : Rat) * (N : Rat) = (rn : Rat) := Rat.div_mul_cancel (by grind)
  have e3 : (((if om > 0 then 1 else -1) * rn : Int) : Rat) / ((N * om.natAbs : Nat) : Rat) * ((N * om.natAbs : Nat) : Rat) = (((if om > 0 then 1 else -1) * rn : Int) : Rat) := Rat.div_mul_cancel (by grind)
  have es : ((om.natAbs : Nat) : Rat) = (((if om > 0 then 1 else -1 : Int)) : Rat) * ((om : Int) : Rat) := by
    rw [← Rat.intCast_mul, ← abs_sign, Rat.intCast_natCast]
  rw [Rat.natCast_mul, Rat.intCast_mul] at e3
  rw [Rat.natCast_mul, Rat.intCast_mul]
  have hsq : (((if om > 0 then 1 else -1 : Int)) : Rat) * (((if om > 0 then 1 else -1 : Int)) : Rat) = 1 := by
    split <;> decide +kernel
  generalize (((if om > 0 then 1 else -1 : Int)) : Rat) = s at es e3 hsq ⊢
  have e4 : (rn : Rat) / (N : Rat) / ((om : Int) : Rat) * ((N : Rat) * ((om.natAbs : Nat) : Rat)) = s * (rn : Rat) := by
    rw [es]
    have : (rn : Rat) / (N : Rat) / ((om : Int) : Rat) * ((N : Rat) * (s * ((om : Int) : Rat))) = s * (((rn : Rat) / (N : Rat) / ((om : Int) : Rat) * ((om : Int) : Rat)) * (N : Rat)) := by grind
    rw [this, e1, e2]
  have hp : (0 : Rat) < (N : Rat) * ((om.natAbs : Nat) : Rat) := Rat.mul_pos hNq haq
  generalize hH : (N : Rat) * ((om.natAbs : Nat) : Rat) = H at e3 e4 hp ⊢
  have hi : H * H⁻¹ = 1 := Rat.mul_inv_cancel _ (by grind)
  have c1 : (rn : Rat) / (N : Rat) / ((om : Int) : Rat) = (rn : Rat) / (N : Rat) / ((om : Int) : Rat) * H * H⁻¹ := by rw [Rat.mul_assoc, hi]; grind
  have c2 : s * (rn : Rat) / H = s * (rn : Rat) / H * H * H⁻¹ := by rw [Rat.mul_assoc (s * (rn : Rat) / H), hi]; grind
  rw [c1, c2, e4, e3]
theorem prun_of {o : List Int} (h0 : o ≠ []) (hl : o.getLastD 0 ≠ 0) (hO : n1 o < 2 ^ 64) : ∀ (n : Nat) (b N : Nat) (rs : List Int), rs.length = n → 0 < N → N < 2 ^ b → n1 rs < 2 ^ b → b + 65 * (n + 1) ≤ 60000 → PRun (cst o) (over N rs) := by
  intro n
  induction n using Nat.strongRecOn with
  | _ n ih =>
    intro b N rs hn hN hNb hrb hb
    have hol : (cst o).length = o.length := by unfold cst; simp
    have hcne : cst o ≠ [] := fun z => h0 (List.map_eq_nil_iff.mp z)
    have hom := n1_last o
    have ha : 0 < (o.getLastD 0).natAbs := by omega
    by_cases hc : o.length ≤ rs.length
    · have hNM : N * (o.getLastD 0).natAbs < 2 ^ (b + 65) := by
        rw [show b + 65 = b + 64 + 1 by omega, Nat.pow_succ, Nat.pow_add]
        have := Nat.mul_lt_mul'' hNb (show (o.getLastD 0).natAbs < 2 ^ 64 by omega)
        omega
      have hraw : n1 (trim (raw o rs)) < 2 ^ (b + 65) := by
        have h1 := n1_trim (raw o rs)
        have h2 := raw_n1 o rs
        have h3 := Nat.mul_lt_mul'' hrb hO
        rw [show b + 65 = b + 64 + 1 by omega, Nat.pow_succ, Nat.pow_add]
        omega
      have hpb : pby (cst o) (over N rs) = (((if o.getLastD 0 > 0 then 1 else -1) * rs.getLastD 0 : Int) : Rat) / ((N * (o.getLastD 0).natAbs : Nat) : Rat) := by
        unfold pby
        rw [last_over, last_cst, by_over hN hl]
      have hbyabs : (((if o.getLastD 0 > 0 then 1 else -1) * rs.getLastD 0) : Int).natAbs = (rs.getLastD 0).natAbs := by
        split
        · rw [Int.one_mul]
        · rw [Int.neg_mul, Int.one_mul, Int.natAbs_neg]
      have hlr := n1_last rs
      have hb2 : 2 ^ b ≤ 2 ^ (b + 65) := Nat.pow_le_pow_right (by decide) (by omega)
      refine .step (by rw [hol, over_len]; exact hc) (fun c hcm => ?_) ?_ (fun c hcm => ?_) ?_
      · obtain ⟨z, hz, rfl⟩ := over_mem hcm
        exact sf_div hN (n1_mem hz) b (by omega) hrb hNb
      · rw [hpb]
        exact sf_div (Nat.mul_pos hN ha) (B := n1 rs) (by rw [hbyabs]; exact hlr) (b + 65) (by omega) (by omega) hNM
      · obtain ⟨i, hi, rfl⟩ := List.mem_map.mp hcm
        rw [hpb]
        have e : (((if o.getLastD 0 > 0 then 1 else -1) * rs.getLastD 0 : Int) : Rat) / ((N * (o.getLastD 0).natAbs : Nat) : Rat) * ((i : Int) : Rat) = (((if o.getLastD 0 > 0 then 1 else -1) * rs.getLastD 0 * i : Int) : Rat) / ((N * (o.getLastD 0).natAbs : Nat) : Rat) := by
          rw [Rat.intCast_mul _ i, Rat.div_def, Rat.div_def]
          grind
        rw [e]
        refine sf_div (Nat.mul_pos hN ha) (B := n1 rs * n1 o) ?_ (b + 65) (by omega) ?_ hNM
        · rw [Int.natAbs_mul, hbyabs]
          exact Nat.mul_le_mul hlr (n1_mem hi)
        · have h3 := Nat.mul_lt_mul'' hrb hO
          rw [show b + 65 = b + 64 + 1 by omega, Nat.pow_succ, Nat.pow_add]
          omega
      · have hp := pstep_len (other := cst o) (rest := over N rs) hcne (by rw [hol, over_len]; exact hc)
        rw [pstep_over hN h0 hl hc] at hp ⊢
        rw [over_len, over_len] at hp
        exact ih _ (by omega) (b + 65) _ _ rfl (Nat.mul_pos hN ha) hNM hraw (by omega)
    · exact .done (by rw [hol, over_len]; omega)
end Mf
end

-- text S12
section
set_option autoImplicit false
set_option linter.all false
/-! S12: all sizes of a call; what the law asks of the numbers of zeros. -/
namespace Mf
theorem n1_bd {u : Nat} {l : List Int} (h : Bd u l) : n1 l ≤ l.length * 2 ^ u := by
  induction l with
  | nil => show 0 ≤ _; omega
  | cons a l ih =>
    rw [n1_cons, List.length_cons, Nat.succ_mul]
    have h1 := h a List.mem_cons_self
    have h2 := ih fun c hc => h c (List.mem_cons_of_mem _ hc)
    omega
theorem lastR_is (row : List (List Int)) : lastR row = cst (row.getLastD []) := rfl
theorem last_mem {row : List (List Int)} (h : row ≠ []) : row.getLastD [] ∈ row := getLastD_mem h []
/-- the last list of the drawn polynomial's row is small -/
theorem last_bdd {c : Rat} {L : List Fa} (h : Good c L) : Bd 59 ((srow (mkp c L)).getLastD []) := by
  have hc := cok_ne h.c
  have z0 := start_nz (mkp_trim c hc L)
  have z1 := start_nz (slope_trim (mkp c L))
  obtain ⟨zd, nd⟩ : Nz ((srow (mkp c L)).getLastD []) ∧ (srow (mkp c L)).getLastD [] ≠ [] := by
    rw [srow_last]
    exact rlast_nz _ _ _ rfl (start_ne (mkp_ne h)) z0 z1
  have hpm : Pm ((srow (mkp c L)).getLastD []) := by
    rw [srow_last]
    exact rlast_pm _ _ _ rfl (less_pm _) (less_pm _)
  obtain ⟨kd, hkd, hd⟩ := last_is h
  obtain ⟨M, hM, B, hB, hS⟩ := good_sz18 (good_lower h)
  obtain ⟨zs, y1, y2, y3⟩ := sz_int (u := 59) hS (by omega)
  have hm : (0 : Rat) < (M : Rat) := Rat.natCast_pos.mpr hS.1
  have mm : (M : Rat)⁻¹ * (M : Rat) = 1 := Rat.inv_mul_cancel _ (by grind)
  refine prim hpm zd y1 y3 (t := kd * (M : Rat)⁻¹) (fun z => ?_) fun x => ?_
  · rcases Rat.mul_eq_zero.mp z with z | z
    · exact hkd z
    · rw [z] at mm; grind
  · rw [hd, y2, dE_mkp]
    have : kd * (M : Rat)⁻¹ * ((M : Rat) * ev (mkp 1 (lower (em L))) x) = kd * ((M : Rat)⁻¹ * (M : Rat)) * ev (mkp 1 (lower (em L))) x := by grind
    rw [this, mm]; grind
end Mf
end

-- text S13
section
set_option autoImplicit false
set_option linter.all false
/-! S13: the quotient; ZAll. -/
namespace Mf
theorem sf_int {n : Int} {u : Nat} (h : n.natAbs < 2 ^ u) (hu : u ≤ 67108864) : SF ((n : Int) : Rat) := by
  refine ⟨⟨u, hu, by rw [Rat.num_intCast]; exact h⟩, SI.small (by rw [Rat.den_intCast]; decide)⟩
theorem part_ok {c : Rat} {L : List Fa} (h : Good c L) (hl : (mkp c L).length < 19) : PartOk (mkp c L) (lastR (srow (mkp c L))) := by
  have hc := cok_ne h.c
  obtain ⟨zd, nd⟩ : Nz ((srow (mkp c L)).getLastD []) ∧ (srow (mkp c L)).getLastD [] ≠ [] := by
    rw [srow_last]
    exact rlast_nz _ _ _ rfl (start_ne (mkp_ne h)) (start_nz (mkp_trim c hc L)) (start_nz (slope_trim (mkp c L)))
  obtain ⟨t1, t2, t3⟩ := getLast_cst zd nd
  have hlen := srow_len _ (last_mem (srow_ne (mkp c L)))
  have hbd := last_bdd h
  rw [lastR_is]
  obtain ⟨M, hM, B, hB, hS⟩ := good_sz18 h
  obtain ⟨h0, zs, e, hz⟩ := hS
  have hzl : zs.length = (mkp c L).length := by rw [e, over_len]
  refine ⟨t2, t3, by omega, by unfold cst; rw [List.length_map]; omega, fun q hq => ?_, ?_⟩
  · obtain ⟨n, hn, rfl⟩ := List.mem_map.mp hq
    exact sf_int (hbd n hn) (by decide)
  · have hd0 : ((srow (mkp c L)).getLastD []).getLastD 0 ≠ 0 := zd.elim (fun z => absurd z nd) id
    have h1 := n1_bd hbd
    have h2 : ((srow (mkp c L)).getLastD []).length * 2 ^ 59 ≤ 18 * 2 ^ 59 := Nat.mul_le_mul_right _ (by omega)
    have := prun_of nd hd0 (by omega) _ 63 M zs rfl h0 (Nat.lt_trans hM (by decide)) (by omega) (by omega)
    rw [← e] at this
    exact this
end Mf
end

-- text S14
section
set_option autoImplicit false
set_option linter.all false
/-! S14: the quotient's row. -/
namespace Mf
theorem p18 : 100 ^ 18 < 2 ^ 120 := by decide
theorem k_num {a n : Nat} (h1 : 18 * a < 2 ^ 63) (h2 : n < 2 ^ 60) : a * 100 ^ 18 * n < 2 ^ 300 := by
  have h3 : a * 100 ^ 18 < 2 ^ 63 * 2 ^ 120 := Nat.mul_lt_mul'' (by omega) p18
  have h4 := Nat.mul_lt_mul'' h3 h2
  refine Nat.lt_of_lt_of_le h4 ?_
  rw [← Nat.pow_add, ← Nat.pow_add]
  exact Nat.pow_le_pow_right (by decide) (by decide)
theorem k_den {m b d : Nat} (h1 : m < 2 ^ 60) (h2 : 18 * b < 2 ^ 63) (h3 : d < 2 ^ 64) : m * (b * 100 ^ 18) * (d * 100 ^ 18) < 2 ^ 450 := by
  have h4 : b * 100 ^ 18 < 2 ^ 63 * 2 ^ 120 := Nat.mul_lt_mul'' (by omega) p18
  have h5 : d * 100 ^ 18 < 2 ^ 64 * 2 ^ 120 := Nat.mul_lt_mul'' h3 p18
  have h6 := Nat.mul_lt_mul'' (Nat.mul_lt_mul'' h1 h4) h5
  refine Nat.lt_of_lt_of_le h6 ?_
  rw [← Nat.pow_add, ← Nat.pow_add, ← Nat.pow_add, ← Nat.pow_add]
  exact Nat.pow_le_pow_right (by decide) (by decide)
theorem quot_ok {c : Rat} {L : List Fa} (h : Good c L) (hl : (mkp c L).length < 19) : SRowOk (parted (mkp c L) (lastR (srow (mkp c L)))).1 ∧ (∀ r ∈ srow (parted (mkp c L) (lastR (srow (mkp c L)))).1, Bd 42614848 r ∧ r.length ≤ 18) ∧ (srow (parted (mkp c L) (lastR (srow (mkp c L)))).1).length ≤ 18 := by
  obtain ⟨k, hk, h1, h2, h3, h4⟩ := quot_all h
  have hc := cok_ne h.c
  obtain ⟨zd, nd⟩ : Nz ((srow (mkp c L)).getLastD []) ∧ (srow (mkp c L)).getLastD [] ≠ [] := by
    rw [srow_last]
    exact rlast_nz _ _ _ rfl (start_ne (mkp_ne h)) (start_nz (mkp_trim c hc L)) (start_nz (slope_trim (mkp c L)))
  obtain ⟨t1, t2, t3⟩ := getLast_cst zd nd
  have hgl := parted_len (one := mkp c L) t2
  have hlen := srow_len _ (last_mem (srow_ne (mkp c L)))
  have hbd := last_bdd h
  have n1d : n1 ((srow (mkp c L)).getLastD []) < 2 ^ 64 := by
    have h1 := n1_bd hbd
    have h2 : ((srow (mkp c L)).getLastD []).length * 2 ^ 59 ≤ 18 * 2 ^ 59 := Nat.mul_le_mul_right _ (by omega)
    omega
  have hne : ev (mkp c L) 100 ≠ 0 := fun z => by
    rw [ev_mkp] at z
    exact (Rat.mul_eq_zero.mp z).elim hc (fE_100 _ (good_eok h).f)
  have hGk := good_keys h
  obtain ⟨M, hM, B, hB, hS⟩ := good_sz18 h
  obtain ⟨N, hN, A, hA, hT⟩ := good_sz18 hGk
  have htm := mkp_trim 1 (by decide +kernel) (keys (em L))
  have hmk : ∀ x, ev (parted (mkp c L) (lastQ (srow (mkp c L)))).1 x = k * ev (mkp 1 (keys (em L))) x := fun x => by rw [h1, pE_mkp]
  have heq := eq_psc h2 htm hk hmk
  have hml : (parted (mkp c L) (lastQ (srow (mkp c L)))).1.length = (mkp 1 (keys (em L))).length := by
    rw [heq]
    unfold psc
    rw [List.length_map]
  have e100 : ev (mkp c L) 100 = k * ev (mkp 1 (keys (em L))) 100 * evI ((srow (mkp c L)).getLastD []) 100 := by rw [← h4, hmk]
  have hgl2 : (parted (mkp c L) (lastQ (srow (mkp c L)))).1.length ≤ (mkp c L).length := hgl
  have hks := k_small hS hT e100 hne (by omega) (by omega) (by omega)
  have kn := Nat.lt_of_le_of_lt hks.1 (k_num hB hN)
  have kd := Nat.lt_of_le_of_lt hks.2 (k_den hM hA n1d)
  have hG : Sz (k.den * N) (k.num.natAbs * A) (parted (mkp c L) (lastQ (srow (mkp c L)))).1 := by
    have := sz_psc k hT
    rwa [← heq] at this
  have e : lastQ (srow (mkp c L)) = lastR (srow (mkp c L)) := rfl
  rw [e] at h2 h3 hmk hml hG hgl2
  generalize (parted (mkp c L) (lastR (srow (mkp c L)))).1 = g at *
  have s1 : k.den * N < 2 ^ 600 := Nat.lt_of_lt_of_le (Nat.mul_lt_mul'' kd hN) (by rw [← Nat.pow_add]; exact Nat.pow_le_pow_right (by decide) (by decide))
  have s2 : 18 * (k.num.natAbs * A) < 2 ^ 600 := by
    have : k.num.natAbs * (18 * A) < 2 ^ 300 * 2 ^ 63 := Nat.mul_lt_mul'' kn hA
    rw [← Nat.pow_add] at this
    have h3 := Nat.lt_of_lt_of_le this (Nat.pow_le_pow_right (n := 2) (by decide) (show 300 + 63 ≤ 600 by decide))
    rwa [Nat.mul_left_comm] at h3
  have s3 : g.length * (k.num.natAbs * A) < 2 ^ 600 := Nat.lt_of_le_of_lt (Nat.mul_le_mul_right _ (show g.length ≤ 18 by omega)) s2
  have hsl := slope_len g
  have a63 : (mkp 1 (keys (em L))).length * A < 2 ^ 63 := Nat.lt_of_le_of_lt (Nat.mul_le_mul_right _ (show (mkp 1 (keys (em L))).length ≤ 18 by omega)) hA
  obtain ⟨r1, r2, r3⟩ := srow_ok h3 (by omega) (hG.wok 600 (by decide) (by omega) s1 (by omega)) (hG.slope.wok 600 (by decide) s3 s1 (by omega)) (start_bd h2 hk hmk hT (by omega)) (start_bd (slope_trim g) hk (slope_sc hmk) hT.slope a63)
  exact ⟨r1, fun r hr => ⟨r2 r hr, Nat.le_trans (srow_len r hr) (by omega)⟩, r3⟩
theorem z_ok {c : Rat} {L : List Fa} {lo hi : Rat} (h : Good c L) (hl : (mkp c L).length < 19) (h1 : Sm lo) (h2 : Sm hi) : ZOk (mkp c L) lo hi := by
  obtain ⟨m1, m2, m3⟩ := mkp_row h hl
  have hlen := srow_len _ (last_mem (srow_ne (mkp c L)))
  have hq : CRowOk (mkp c L) := ⟨m1, by omega, fun _ => ⟨part_ok h hl, (quot_ok h hl).1⟩⟩
  have hall : (crow (mkp c L)).length ≤ 18 ∧ ∀ r ∈ crow (mkp c L), Bd 42614848 r ∧ r.length ≤ 18 := by
    unfold crow
    simp only
    split
    · exact ⟨m3, fun r hr => ⟨m2 r hr, Nat.le_trans (srow_len r hr) (by omega)⟩⟩
    · exact ⟨(quot_ok h hl).2.2, (quot_ok h hl).2.1⟩
  exact ⟨hq, by omega, fun r hr => hok_of h1 (hall.2 r hr).1 (hall.2 r hr).2, fun r hr => hok_of h2 (hall.2 r hr).1 (hall.2 r hr).2⟩
end Mf
end

-- text S15
section
set_option autoImplicit false
set_option linter.all false
/-! S15: what the law asks of the numbers of zeros. -/
namespace Mf
theorem in_all {z : Zr} (h : zsa z) : inSt (-1000) 1000 z = true := by
  have n1 : (-1000 : Rat).num = -1000 := by decide +kernel
  have n2 : (-1000 : Rat).den = 1 := by decide +kernel
  have n3 : (1000 : Rat).num = 1000 := by decide +kernel
  have n4 : (1000 : Rat).den = 1 := by decide +kernel
  unfold inSt
  cases z with
  | rat q =>
    obtain ⟨h1, h2⟩ := h
    have := q.den_pos
    simp only [aboveB, n1, n2, n3, n4]
    have e1 : decide ((-1000 : Int) * (q.den : Int) < q.num * ((1 : Nat) : Int)) = true := decide_eq_true (by omega)
    have e2 : decide ((1000 : Int) * (q.den : Int) < q.num * ((1 : Nat) : Int)) = false := decide_eq_false (by omega)
    rw [e1, e2]
    rfl
  | root s k =>
    obtain ⟨h1, h2⟩ := h
    simp only [aboveB, n1, n2, n3, n4]
    have a1 : decide ((-1000 : Int) < 0) = true := by decide
    have a2 : decide ((1000 : Int) < 0) = false := by decide
    have a3 : decide ((1000 : Int) * 1000 < k * ((1 : Nat) : Int) * ((1 : Nat) : Int)) = false := decide_eq_false (by omega)
    have a4 : decide (k * ((1 : Nat) : Int) * ((1 : Nat) : Int) < (-1000 : Int) * (-1000)) = true := decide_eq_true (by omega)
    rw [a1, a2, a3, a4]
    split <;> rfl
theorem zAll : ZAll where
  z c L lo hi h hl h1 h2 hlt := ⟨z_ok h hl h1 h2, mkp_trim c (cok_ne h.c) L, mkp_ne h, z_val h lo hi hlt⟩
  len _ _ h hx := good_len h hx
  len80 _ _ h := good_len80 h
  split zs lo mid hi _ h1 h2 := by
    have := split_len zs h1 h2
    unfold many
    omega
  all zs h := by
    unfold many
    rw [List.filter_eq_self.mpr fun z hz => in_all (h z hz)]
end Mf
end

-- text E1
section
set_option Elab.async false
set_option linter.all false
set_option autoImplicit false
set_option maxRecDepth 100000
set_option maxHeartbeats 2000000
/-! E1: what stands behind the top, by names; every def's promise joined. -/
namespace Mf
open PySem PySem.Spec PyProof.Rows L2 Evl
@[reducible] def mkD (x : Str) (st : Stmt) : He.FnD := ⟨(x, none), x, x, defArgs st, defBody st, defScope st⟩

def fn1 : List He.FnD := [mkD "is_integer" sIsInteger, mkD "is_within" sIsWithin, mkD "is_fraction" sIsFraction, mkD "common" sCommon, mkD "reduced" sReduced, mkD "as_pair" sAsPair, mkD "plus" sPlus, mkD "minus" sMinus, mkD "times" sTimes, mkD "over" sOver, mkD "is_less" sIsLess, mkD "need_fraction" sNeedFraction, mkD "trimmed" sTrimmed, mkD "whole_of" sWholeOf, mkD "parted_in" sPartedIn, mkD "slope_in" sSlopeIn, mkD "need_poly" sNeedPoly, mkD "lessened" sLessened, mkD "turned_rest" sTurnedRest, mkD "sign_row" sSignRow, mkD "counting_row" sCountingRow]
def fn2 : List He.FnD := [mkD "sign_at" sSignAt, mkD "changes_at" sChangesAt, mkD "zeros_between" sZerosBetween, mkD "need_stretch" sNeedStretch, mkD "need_below" sNeedBelow, mkD "need_some" sNeedSome, mkD "zeros_in" sZerosIn, mkD "_law_counter" sLCounter, mkD "_law_tally_up" sLTallyUp, mkD "_law_pick" sLPick, mkD "_law_low" sLLow, mkD "_law_plus" sLPlus, mkD "_law_times" sLTimes, mkD "_law_as" sLAs, mkD "_law_trimmed" sLTrimmed, mkD "_law_product" sLProduct, mkD "_law_zeros" sLZeros, mkD "_law_is_above" sLIsAbove, mkD "_law_many" sLMany, mkD "_law_stretch" sLStretch, mkD "law" sLaw]
def fnL : List He.FnD := fn1 ++ fn2
def freeN : List Str := ["len", "abs", "max", "int", "list", "tuple", "bool", "all", "sum", "isinstance", "repr", "range", "zip", "enumerate"]
def statB (K : PySem.W.Frag) : Bool := [cStatics, sysModules, builtinsNs, mainGlobals, He.ga K "__builtins__"].all fun a => (K.lookup a).isSome
def defB (K : PySem.W.Frag) (d : He.FnD) : Bool := (He.Fa.glo d.name).ok K && ((He.Fa.keep d.name).ok K && (He.Fa.code d.at_ d.qual).ok K)
def okS (K : PySem.W.Frag) : Bool := (fnL.all fun d => defB K d) && ((freeN.all fun x => (He.Fa.free x).ok K) && (((He.Fa.int "MOST_NUMBERS" 80).ok K && ((He.Fa.glo "ZERO").ok K && He.tupB K "ZERO" [.int 0, .int 1])) && ((He.Fa.glo "__builtins__").ok K && statB K)))
def obsS (K : PySem.W.Frag) : He.Al := (okS K, fnL.map fun d => He.fnObs K d.at_)
def valS : He.Al := (true, fnL.map He.FnD.val)
def SaysS (K : PySem.W.Frag) : Prop := obsS K = valS
def adS (g : Addr → Option Obj) : List Addr := cStatics :: sysModules :: builtinsNs :: He.asG g 3
def hkS : PySem.W.Hook where
  α := He.Al
  obs := fun s => obsS (He.frG s.heap.get? (adS s.heap.get?))
  val := fun _ => valS
  says := fun _ h => ∃ K : PySem.W.Frag, K.In h ∧ SaysS K
  of := fun _ _ e => ⟨_, He.frG_in, e⟩
  keeps := fun _ _ _ ⟨K, hK, c⟩ k => ⟨K, PySem.W.Frag.In.keeps hK k, c⟩
noncomputable def obS (s : PySem.W.SharedT) : He.Al := obsS (He.frG (HandSHeadRun.getT s) (adS (HandSHeadRun.getT s)))
theorem obS_eq (s : PySem.W.SharedT) : obS s = hkS.obs s.abs := by
  have e : HandSHeadRun.getT s = s.abs.heap.get? := funext (HandSHeadRun.getT_eq s)
  unfold obS
  rw [e] <;> rfl
section
variable {P : Program} {w : World} {K : PySem.W.Frag} {mg : Str → Option Value} {h base : Heap}
theorem says_ok (c : SaysS K) : okS K = true := congrArg (fun z : He.Al => z.1) c
theorem says_def (c : SaysS K) (i : Nat) {d : He.FnD} (hd : fnL[i]? = some d) : defB K d = true :=
  List.all_eq_true.mp (He.ba (says_ok c)).1 d (List.mem_of_getElem? hd)
theorem fun_at (c : SaysS K) (i : Nat) {x : Str} {st : Stmt} (hd : fnL[i]? = some (mkD x st)) : ∃ fd, Fun K x x st (He.ga K x) fd := by
  have e : fnL.map (fun d => He.fnObs K d.at_) = fnL.map He.FnD.val := congrArg (fun z : He.Al => z.2) c
  have e2 : (fnL.map fun d => He.fnObs K d.at_)[i]? = (fnL.map He.FnD.val)[i]? := by rw [e]
  rw [List.getElem?_map, List.getElem?_map, hd] at e2
  obtain ⟨_, c3⟩ := He.ba (says_def c i hd)
  obtain ⟨c4, c5⟩ := He.ba c3
  obtain ⟨oc, od, osl, kV, doc, pm, an, cdv, ct, l, cc⟩ := He.fn_ok (d := mkD x st) (Option.some.inj e2) c5
  exact ⟨_, fun_mk l cc c4⟩
theorem glo_at (X : K.In h) (G : h.Ns mainGlobals mg) (c : SaysS K) (i : Nat) {x : Str} {st : Stmt} (hd : fnL[i]? = some (mkD x st)) : mg x = some (.ref (He.ga K x)) :=
  He.glo_ok X G (He.ba (says_def c i hd)).1
theorem free_at (X : K.In h) (G : h.Ns mainGlobals mg) (c : SaysS K) {x : Str} (hx : x ∈ freeN) : mg x = none :=
  He.free_ok X G (List.all_eq_true.mp (He.ba (He.ba (says_ok c)).2).1 x hx)
theorem blt_of (X : K.In h) (G : h.Ns mainGlobals mg) (c : SaysS K) : Blt mg := by
  constructor <;> exact free_at X G c (by decide +kernel)
theorem mods_of (X : K.In h) (G : h.Ns mainGlobals mg) (c : SaysS K) : Mods K mg := by
  obtain ⟨c1, c2⟩ := He.ba (He.ba (He.ba (He.ba (says_ok c)).2).2).1
  obtain ⟨c3, c4⟩ := He.ba c2
  exact ⟨⟨_, He.glo_ok X G c3, .tup (He.tupB_ok c4 _) (.cons (.int 0) (.cons (.int 1) .nil))⟩, He.int_ok X G c1⟩
/-- the base behind the top has no seer of imports -/
theorem seer_of (X : K.In h) (Xb : K.In base) (N : h.NoSeer) (c : SaysS K) : base.NoSeer := by
  obtain ⟨c1, c2⟩ := He.ba (He.ba (He.ba (He.ba (says_ok c)).2).2).2
  have key : ∀ {a : Addr} {o : Obj}, (K.lookup a).isSome = true → h.get? a = some o → base.get? a = some o := fun {a o} ha ho => by
    obtain ⟨o', e⟩ := Option.isSome_iff_exists.mp ha
    have e2 := X _ _ e
    rw [ho] at e2
    cases e2
    exact Xb _ _ e
  have st : ∀ a ∈ [cStatics, sysModules, builtinsNs, mainGlobals, He.ga K "__builtins__"], (K.lookup a).isSome = true := List.all_eq_true.mp c2
  have ns : ∀ {a : Addr} {m : Str → Option Value}, (K.lookup a).isSome = true → h.Ns a m → base.Ns a m := fun ha ⟨o, es, ep, e, r⟩ => ⟨o, es, ep, key ha e, r⟩
  refine ⟨?_, ?_, ?_, ?_⟩
  · obtain ⟨m, a, b⟩ := N.statics
    exact ⟨m, ns (st _ (by simp)) a, b⟩
  · obtain ⟨m, a, b⟩ := N.mods
    exact ⟨m, ns (st _ (by simp)) a, b⟩
  · obtain ⟨m, a, b⟩ := N.imp
    exact ⟨m, ns (st _ (by simp)) a, b⟩
  · obtain ⟨m, bm, ob, a, b, d, r⟩ := N.main
    have e := b.symm.trans (He.glo_ok X a c1)
    cases e
    exact ⟨m, _, ob, ns (st _ (by simp)) a, b, key (st _ (by simp)) d, r⟩
theorem kb0_zeros {f : Addr} {fd : FuncData} (F : Fun K "zeros_in" "zeros_in" sZerosIn f fd) : KB0 K fd ["poly", "low", "high"] ["high", "low", "poly"] := by
  obtain ⟨oc, od, kV, doc, pm, an, cdv, ct, osl, rfl, lk, hcd⟩ := F.ex
  exact ⟨fun s ws _ hl => match ws, hl with | [_, _, _], _ => .of_eq rfl⟩
theorem b_law {f : Addr} {fd : FuncData} (F : Fun K "law" "law" sLaw f fd) (s : Shared) (v : Value) : BindsTo s fd ⟨[v], []⟩ [("_law_script", v)] := by
  obtain ⟨oc, od, kV, doc, pm, an, cdv, ct, osl, rfl, lk, hcd⟩ := F.ex
  exact .of_eq rfl

theorem at0 : fnL[0]? = some (mkD "is_integer" sIsInteger) := rfl
theorem at1 : fnL[1]? = some (mkD "is_within" sIsWithin) := rfl
theorem at2 : fnL[2]? = some (mkD "is_fraction" sIsFraction) := rfl
theorem at3 : fnL[3]? = some (mkD "common" sCommon) := rfl
theorem at4 : fnL[4]? = some (mkD "reduced" sReduced) := rfl
theorem at5 : fnL[5]? = some (mkD "as_pair" sAsPair) := rfl
theorem at6 : fnL[6]? = some (mkD "plus" sPlus) := rfl
theorem at7 : fnL[7]? = some (mkD "minus" sMinus) := rfl
theorem at8 : fnL[8]? = some (mkD "times" sTimes) := rfl
theorem at9 : fnL[9]? = some (mkD "over" sOver) := rfl
theorem at10 : fnL[10]? = some (mkD "is_less" sIsLess) := rfl
theorem at11 : fnL[11]? = some (mkD "need_fraction" sNeedFraction) := rfl
theorem at12 : fnL[12]? = some (mkD "trimmed" sTrimmed) := rfl
theorem at13 : fnL[13]? = some (mkD "whole_of" sWholeOf) := rfl
theorem at14 : fnL[14]? = some (mkD "parted_in" sPartedIn) := rfl
theorem at15 : fnL[15]? = some (mkD "slope_in" sSlopeIn) := rfl
theorem at16 : fnL[16]? = some (mkD "need_poly" sNeedPoly) := rfl
theorem at17 : fnL[17]? = some (mkD "lessened" sLessened) := rfl
theorem at18 : fnL[18]? = some (mkD "turned_rest" sTurnedRest) := rfl
theorem at19 : fnL[19]? = some (mkD "sign_row" sSignRow) := rfl
theorem at20 : fnL[20]? = some (mkD "counting_row" sCountingRow) := rfl
theorem at21 : fnL[21]? = some (mkD "sign_at" sSignAt) := rfl
theorem at22 : fnL[22]? = some (mkD "changes_at" sChangesAt) := rfl
theorem at23 : fnL[23]? = some (mkD "zeros_between" sZerosBetween) := rfl
theorem at24 : fnL[24]? = some (mkD "need_stretch" sNeedStretch) := rfl
theorem at25 : fnL[25]? = some (mkD "need_below" sNeedBelow) := rfl
theorem at26 : fnL[26]? = some (mkD "need_some" sNeedSome) := rfl
theorem at27 : fnL[27]? = some (mkD "zeros_in" sZerosIn) := rfl
theorem at28 : fnL[28]? = some (mkD "_law_counter" sLCounter) := rfl
theorem at29 : fnL[29]? = some (mkD "_law_tally_up" sLTallyUp) := rfl
theorem at30 : fnL[30]? = some (mkD "_law_pick" sLPick) := rfl
theorem at31 : fnL[31]? = some (mkD "_law_low" sLLow) := rfl
theorem at32 : fnL[32]? = some (mkD "_law_plus" sLPlus) := rfl
theorem at33 : fnL[33]? = some (mkD "_law_times" sLTimes) := rfl
theorem at34 : fnL[34]? = some (mkD "_law_as" sLAs) := rfl
theorem at35 : fnL[35]? = some (mkD "_law_trimmed" sLTrimmed) := rfl
theorem at36 : fnL[36]? = some (mkD "_law_product" sLProduct) := rfl
theorem at37 : fnL[37]? = some (mkD "_law_zeros" sLZeros) := rfl
theorem at38 : fnL[38]? = some (mkD "_law_is_above" sLIsAbove) := rfl
theorem at39 : fnL[39]? = some (mkD "_law_many" sLMany) := rfl
theorem at40 : fnL[40]? = some (mkD "_law_stretch" sLStretch) := rfl
theorem at41 : fnL[41]? = some (mkD "law" sLaw) := rfl
theorem law_fn (X : K.In h) (G : h.Ns mainGlobals mg) (N : h.NoSeer) (ht : P.given.tree = none) (c : SaysS K) : ∃ fd : FuncData, (∀ (s : Shared) (v : Value), BindsTo s fd ⟨[v], []⟩ [("_law_script", v)]) ∧
    ∀ base : Heap, K.In base → base.Ns mainGlobals mg → FnOk P w K mg base CX0 41 (He.ga K "law") fd ["_law_script"] (spR K 1 rLaw) := by
  obtain ⟨fd0, F0⟩ := fun_at c 0 at0
  obtain ⟨fd1, F1⟩ := fun_at c 1 at1
  obtain ⟨fd2, F2⟩ := fun_at c 2 at2
  obtain ⟨fd3, F3⟩ := fun_at c 3 at3
  obtain ⟨fd4, F4⟩ := fun_at c 4 at4
  obtain ⟨fd5, F5⟩ := fun_at c 5 at5
  obtain ⟨fd6, F6⟩ := fun_at c 6 at6
  obtain ⟨fd7, F7⟩ := fun_at c 7 at7
  obtain ⟨fd8, F8⟩ := fun_at c 8 at8
  obtain ⟨fd9, F9⟩ := fun_at c 9 at9
  obtain ⟨fd10, F10⟩ := fun_at c 10 at10
  obtain ⟨fd11, F11⟩ := fun_at c 11 at11
  obtain ⟨fd12, F12⟩ := fun_at c 12 at12
  obtain ⟨fd13, F13⟩ := fun_at c 13 at13
  obtain ⟨fd14, F14⟩ := fun_at c 14 at14
  obtain ⟨fd15, F15⟩ := fun_at c 15 at15
  obtain ⟨fd16, F16⟩ := fun_at c 16 at16
  obtain ⟨fd17, F17⟩ := fun_at c 17 at17
  obtain ⟨fd18, F18⟩ := fun_at c 18 at18
  obtain ⟨fd19, F19⟩ := fun_at c 19 at19
  obtain ⟨fd20, F20⟩ := fun_at c 20 at20
  obtain ⟨fd21, F21⟩ := fun_at c 21 at21
  obtain ⟨fd22, F22⟩ := fun_at c 22 at22
  obtain ⟨fd23, F23⟩ := fun_at c 23 at23
  obtain ⟨fd24, F24⟩ := fun_at c 24 at24
  obtain ⟨fd25, F25⟩ := fun_at c 25 at25
  obtain ⟨fd26, F26⟩ := fun_at c 26 at26
  obtain ⟨fd27, F27⟩ := fun_at c 27 at27
  obtain ⟨fd28, F28⟩ := fun_at c 28 at28
  obtain ⟨fd29, F29⟩ := fun_at c 29 at29
  obtain ⟨fd30, F30⟩ := fun_at c 30 at30
  obtain ⟨fd31, F31⟩ := fun_at c 31 at31
  obtain ⟨fd32, F32⟩ := fun_at c 32 at32
  obtain ⟨fd33, F33⟩ := fun_at c 33 at33
  obtain ⟨fd34, F34⟩ := fun_at c 34 at34
  obtain ⟨fd35, F35⟩ := fun_at c 35 at35
  obtain ⟨fd36, F36⟩ := fun_at c 36 at36
  obtain ⟨fd37, F37⟩ := fun_at c 37 at37
  obtain ⟨fd38, F38⟩ := fun_at c 38 at38
  obtain ⟨fd39, F39⟩ := fun_at c 39 at39
  obtain ⟨fd40, F40⟩ := fun_at c 40 at40
  obtain ⟨fd41, F41⟩ := fun_at c 41 at41
  refine ⟨fd41, b_law F41, fun base Xb Gb => ?_⟩
  have ba : Bas P mg base := ⟨blt_of X G c, seer_of X Xb N c, ht⟩
  have Md := mods_of X G c
  have d_common : DCommon P w K mg base := ok_common F3 (glo_at X G c 3 at3) (F3.binds fun _ _ _ _ _ _ us hl => match us, hl with | [_, _], _ => rfl) ba 
  have d_reduced : DReduced P w K mg base := ok_reduced F4 (glo_at X G c 4 at4) (F4.binds fun _ _ _ _ _ _ us hl => match us, hl with | [_, _], _ => rfl) ba d_common
  have d_is_integer : DIsInteger P w K mg base := ok_is_integer F0 (glo_at X G c 0 at0) (F0.binds fun _ _ _ _ _ _ us hl => match us, hl with | [_], _ => rfl) ba 
  have d_is_within : DIsWithin P w K mg base := ok_is_within F1 (glo_at X G c 1 at1) (F1.binds fun _ _ _ _ _ _ us hl => match us, hl with | [_, _, _], _ => rfl) ba d_is_integer
  have d_is_fraction : DIsFraction P w K mg base := ok_is_fraction F2 (glo_at X G c 2 at2) (F2.binds fun _ _ _ _ _ _ us hl => match us, hl with | [_], _ => rfl) ba d_is_integer d_is_within
  have d_as_pair : DAsPair P w K mg base := ok_as_pair F5 (glo_at X G c 5 at5) (F5.binds fun _ _ _ _ _ _ us hl => match us, hl with | [_], _ => rfl) ba d_reduced
  have d_plus : DPlus P w K mg base := ok_plus F6 (glo_at X G c 6 at6) (F6.binds fun _ _ _ _ _ _ us hl => match us, hl with | [_, _], _ => rfl) ba d_reduced
  have d_minus : DMinus P w K mg base := ok_minus F7 (glo_at X G c 7 at7) (F7.binds fun _ _ _ _ _ _ us hl => match us, hl with | [_, _], _ => rfl) ba d_plus
  have d_times : DTimes P w K mg base := ok_times F8 (glo_at X G c 8 at8) (F8.binds fun _ _ _ _ _ _ us hl => match us, hl with | [_, _], _ => rfl) ba d_reduced
  have d_over : DOver P w K mg base := ok_over F9 (glo_at X G c 9 at9) (F9.binds fun _ _ _ _ _ _ us hl => match us, hl with | [_, _], _ => rfl) ba d_reduced
  have d_is_less : DIsLess P w K mg base := ok_is_less F10 (glo_at X G c 10 at10) (F10.binds fun _ _ _ _ _ _ us hl => match us, hl with | [_, _], _ => rfl) ba 
  have d_need_fraction : DNeedFraction P w K mg base := ok_need_fraction F11 (glo_at X G c 11 at11) (F11.binds fun _ _ _ _ _ _ us hl => match us, hl with | [_, _], _ => rfl) ba d_is_fraction d_as_pair
  have d_trimmed : DTrimmed P w K mg base := ok_trimmed F12 (glo_at X G c 12 at12) (F12.binds fun _ _ _ _ _ _ us hl => match us, hl with | [_], _ => rfl) ba Md
  have d_whole_of : DWholeOf P w K mg base := ok_whole_of F13 (glo_at X G c 13 at13) (F13.binds fun _ _ _ _ _ _ us hl => match us, hl with | [_], _ => rfl) ba d_common
  have d_slope_in : DSlopeIn P w K mg base := ok_slope_in F15 (glo_at X G c 15 at15) (F15.binds fun _ _ _ _ _ _ us hl => match us, hl with | [_], _ => rfl) ba d_times d_trimmed
  have d_need_poly : DNeedPoly P w K mg base := ok_need_poly F16 (glo_at X G c 16 at16) (F16.binds fun _ _ _ _ _ _ us hl => match us, hl with | [_, _], _ => rfl) ba Md d_is_fraction d_as_pair d_trimmed
  have d_parted_in : DPartedIn P w K mg base := ok_parted_in F14 (glo_at X G c 14 at14) (F14.binds fun _ _ _ _ _ _ us hl => match us, hl with | [_, _], _ => rfl) ba Md d_over d_minus d_times d_trimmed
  have d_lessened : DLessened P w K mg base := ok_lessened F17 (glo_at X G c 17 at17) (F17.binds fun _ _ _ _ _ _ us hl => match us, hl with | [_], _ => rfl) ba d_common
  have d_turned : DTurned P w K mg base := ok_turned F18 (glo_at X G c 18 at18) (F18.binds fun _ _ _ _ _ _ us hl => match us, hl with | [_, _], _ => rfl) ba d_lessened
  have d_sign_row : DSignRow P w K mg base := ok_sign_row F19 (glo_at X G c 19 at19) (F19.binds fun _ _ _ _ _ _ us hl => match us, hl with | [_], _ => rfl) ba d_lessened d_whole_of d_slope_in d_turned
  have d_counting_row : DCountingRow P w K mg base := ok_counting_row F20 (glo_at X G c 20 at20) (F20.binds fun _ _ _ _ _ _ us hl => match us, hl with | [_], _ => rfl) ba d_sign_row d_parted_in
  have d_sign_at : DSignAt P w K mg base := ok_sign_at F21 (glo_at X G c 21 at21) (F21.binds fun _ _ _ _ _ _ us hl => match us, hl with | [_, _], _ => rfl) ba 
  have d_changes_at : DChangesAt P w K mg base := ok_changes_at F22 (glo_at X G c 22 at22) (F22.binds fun _ _ _ _ _ _ us hl => match us, hl with | [_, _], _ => rfl) ba d_sign_at
  have d_zeros_between : DZerosBetween P w K mg base := ok_zeros_between F23 (glo_at X G c 23 at23) (F23.binds fun _ _ _ _ _ _ us hl => match us, hl with | [_, _, _], _ => rfl) ba d_counting_row d_changes_at
  have d_need_stretch : DNeedStretch P w K mg base := ok_need_stretch F24 (glo_at X G c 24 at24) (F24.binds fun _ _ _ _ _ _ us hl => match us, hl with | [_, _, _], _ => rfl) ba d_need_poly d_need_fraction
  have d_need_below : DNeedBelow P w K mg base := ok_need_below F25 (glo_at X G c 25 at25) (F25.binds fun _ _ _ _ _ _ us hl => match us, hl with | [_, _], _ => rfl) ba d_is_less
  have d_need_some : DNeedSome P w K mg base := ok_need_some F26 (glo_at X G c 26 at26) (F26.binds fun _ _ _ _ _ _ us hl => match us, hl with | [_], _ => rfl) ba 
  have k_zeros_in := fk_zeros_in (w := w) F27 ba d_need_stretch d_need_some d_need_below d_zeros_between
  have d_zeros_in : DZerosIn P w K mg base := ⟨_, _, k_zeros_in, glo_at X G c 27 at27, F27.kp, F27.binds fun _ _ _ _ _ _ us hl => match us, hl with | [_, _, _], _ => rfl⟩
  have d_l_counter : DLCounter P w K mg base := ok_l_counter F28 (glo_at X G c 28 at28) (F28.binds fun _ _ _ _ _ _ us hl => match us, hl with | [_], _ => rfl) ba 
  have d_l_tally : DTally P w K mg base := ok_l_tally F29 (glo_at X G c 29 at29) (F29.binds fun _ _ _ _ _ _ us hl => match us, hl with | [_, _], _ => rfl) ba 
  have d_l_pick : DPick P w K mg base := ok_l_pick F30 (glo_at X G c 30 at30) (F30.binds fun _ _ _ _ _ _ us hl => match us, hl with | [_, _], _ => rfl) ba d_l_tally
  have d_l_low : DLLow P w K mg base := ok_l_low F31 (glo_at X G c 31 at31) (F31.binds fun _ _ _ _ _ _ us hl => match us, hl with | [_, _], _ => rfl) ba 
  have d_l_plus : DLPlus P w K mg base := ok_l_plus F32 (glo_at X G c 32 at32) (F32.binds fun _ _ _ _ _ _ us hl => match us, hl with | [_, _], _ => rfl) ba d_l_low
  have d_l_times : DLTimes P w K mg base := ok_l_times F33 (glo_at X G c 33 at33) (F33.binds fun _ _ _ _ _ _ us hl => match us, hl with | [_, _], _ => rfl) ba d_l_low
  have d_l_as : DAs P w K mg base := ok_l_as F34 (glo_at X G c 34 at34) (F34.binds fun _ _ _ _ _ _ us hl => match us, hl with | [_, _], _ => rfl) ba d_l_tally d_l_pick
  have d_l_trimmed : DLTrimmed P w K mg base := ok_l_trimmed F35 (glo_at X G c 35 at35) (F35.binds fun _ _ _ _ _ _ us hl => match us, hl with | [_], _ => rfl) ba 
  have d_l_product : DLProduct P w K mg base := ok_l_product F36 (glo_at X G c 36 at36) (F36.binds fun _ _ _ _ _ _ us hl => match us, hl with | [_, _], _ => rfl) ba d_l_plus d_l_times d_l_trimmed
  have d_l_is_above : DLIsAbove P w K mg base := ok_l_is_above F38 (glo_at X G c 38 at38) (F38.binds fun _ _ _ _ _ _ us hl => match us, hl with | [_, _], _ => rfl) ba 
  have d_l_many : DLMany P w K mg base := ok_l_many F39 (glo_at X G c 39 at39) (F39.binds fun _ _ _ _ _ _ us hl => match us, hl with | [_, _, _], _ => rfl) ba d_l_is_above
  have d_l_stretch : DStretch P w K mg base := ok_l_stretch F40 (glo_at X G c 40 at40) (F40.binds fun _ _ _ _ _ _ us hl => match us, hl with | [_, _], _ => rfl) ba d_l_tally d_l_pick d_l_low d_l_plus
  have d_l_zeros : DZeros P w K mg base := ok_l_zeros F37 (glo_at X G c 37 at37) (F37.binds fun _ _ _ _ _ _ us hl => match us, hl with | [_], _ => rfl) ba pdAll d_l_tally d_l_pick d_l_low d_l_product
  exact fk_law F41 ba pdAll zAll d_l_counter d_l_zeros d_l_stretch d_l_as d_l_many d_zeros_in ⟨_, _, k_zeros_in, glo_at X G c 27 at27, F27.kp, kb0_zeros F27⟩ d_l_plus d_l_times d_l_product d_l_pick
end
end Mf
end

-- text E2
section
set_option Elab.async false
set_option linter.all false
set_option autoImplicit false
set_option maxRecDepth 100000
set_option maxHeartbeats 0
/-! E2: the top, run by the kernel; the law's end. -/
namespace Mf
open PySem PySem.Spec PyProof.Rows L2 Evl
abbrev RR : PySem.W.OpenRow := PySem.W.OpenLaw.row PySem.Challenge.rw_mapflow_k44_whole_zeros_counted
def loose1 : List Str := ["FlowError", "BadNumber", "BadPoly", "Misfit", "ZERO", "MOST_NUMBERS", "is_integer", "is_within", "is_fraction", "common", "reduced", "as_pair", "plus", "minus", "times", "over", "is_less", "need_fraction", "trimmed", "whole_of", "parted_in", "slope_in", "need_poly"]
def loose2 : List Str := ["lessened", "turned_rest", "sign_row", "counting_row", "sign_at", "changes_at", "zeros_between", "need_stretch", "need_below", "need_some", "zeros_in", "_law_counter", "_law_tally_up", "_law_pick", "_law_low", "_law_plus", "_law_times", "_law_as", "_law_trimmed", "_law_product", "_law_zeros", "_law_is_above", "_law_many", "_law_stretch"]
def looseN : List Str := loose1 ++ loose2
theorem top_run (w : World) : HandSHeadRun.RunEq RR (PySem.W.view RR.prog [53]) hkS obS 4000 looseN w := by
  intro os
  kernel_rfl
end Mf
end

-- text E3
section
set_option Elab.async false
set_option linter.all false
set_option autoImplicit false
set_option maxRecDepth 100000
set_option maxHeartbeats 0
/-! E3: the law's call; the statement. -/
namespace Mf
open PySem PySem.Spec PyProof.Rows L2 Evl
theorem dp_ints {K : PySem.W.Frag} {H : Hp} : ∀ ns : List Int, DpAll K H (ns.map V.int) (ns.map PyData.int)
  | [] => .nil
  | n :: ns => .cons (.int n) (dp_ints ns)
theorem sp_start {K : PySem.W.Frag} (H : Hp) (a : Addr) (ns : List Int) (hl : ns.length ≤ 63) (hS : SqL K H a (ns.map V.int)) : spR K 1 rLaw [.ref a] H (fun v _ => v = .bl true) fun _ _ _ => False := by
  have e : cut (fun _ => False) H = H := funext fun b => by
    cases q : H b with
    | none =>
      cases r : cut (fun _ => False) H b with
      | none => rfl
      | some o => exact absurd (q.symm.trans (cut_some.mp r).2) (by simp)
    | some o => exact cut_of (fun z => z) q
  refine ⟨rfl, fun _ => False, [il ns], .bool true, fun _ z => z.elim, ?_, ⟨ns, rfl, by omega, rfl⟩, fun v H2 _ hv => ?_⟩
  · rw [e]
    exact .cons (.lst hS (dp_ints ns)) .nil
  · cases hv
    rfl
theorem law_walk : PySem.W.WalkO (PySem.W.view RR.prog [53]) looseN (PySem.W.XL (PySem.W.view RR.prog [53]) []) hkS.says RR.toRowW (HandSHeadRun.topDef RR.prog 53) [] (fun f vs => PySem.call f vs) := by
  refine Att.attach_call (l := PySem.Challenge.rw_mapflow_k44_whole_zeros_counted) (n := 63) rfl (by kernel_rfl) fun w s₀ s₁ mg mb fa o pm cd doc a vs ns G Y ho hd hcd hmg hobj hints hlen hg => ?_
  obtain ⟨K, KX, c⟩ := Y
  obtain ⟨fd, hb, hF⟩ := law_fn (P := PySem.Challenge.rw_mapflow_k44_whole_zeros_counted.prog) (w := w) KX G.T.g (G.T.seer (by decide +kernel)) rfl c
  have e : mg "law" = some (.ref fa) := by
    have e : (HandSHeadRun.topDef RR.prog 53).name = ("law" : Str) := by kernel_rfl
    rw [← e]
    exact hmg
  have e2 := e.symm.trans (glo_at KX G.T.g c 41 at41)
  cases e2
  exact law_call KX G.T.g G.T.b G.T.builtins G.T.nolimit hg hobj hints (Nat.le_trans hlen (by decide)) ⟨rfl, by decide, by decide⟩ hF hb (fun H _ hS => sp_start H a ns hlen hS) fun _ _ _ z => z
end Mf
open PySem PySem.W PySem.Calls PyProof.Rows
theorem PySem.Challenge.cw_mapflow_k44_whole_zeros_counted_holds : PySem.Challenge.rw_mapflow_k44_whole_zeros_counted.Holds := by
  w_on; o_law
  refine HandSHeadRun.head_any (r := Mf.RR) (q := view Mf.RR.prog [53]) (H := Mf.hkS) (ob := Mf.obS) (M := 4000) (loose := Mf.looseN) (d := HandSHeadRun.topDef Mf.RR.prog 53) (kwd := []) Mf.obS_eq
    (by kernel_rfl) (fun s => by kernel_rfl) Mf.top_run (by kernel_rfl) (by kernel_rfl) (by kernel_rfl) (by rfl) (by first | assumption | decide +kernel) (by decide +kernel) ⟨rfl, rfl, rfl, rfl, rfl, by decide +kernel⟩ ?hw ?hc
  case hw => w_witness2
  case hc => exact Mf.law_walk
end
