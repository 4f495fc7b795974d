import PyProof.Rows.All
import Wide.All
import OpenK.AllK
import Wide.FinOn
import HandS.ForMost
import HandS.Evl
import HandS.Walk
import HandS.Slots
import HandS.TupAny
import HandS.TupMul
import HandS.Wide
import HandS.Deep
import HandS.IsInst
import HandS.SlotsOwn
import HandS.FStr
import HandS.Style
import PySem.Challenge.RW_touchtowers_k46_whole_kinds_by_all_words
import KE.KRevSl
import KE.GoesEnum
import HandS.Sort
import KE.DataMinMax
import KE.SortData
import HandS.Text
set_option linter.all false
/-! the mirrors: plain Lean, no program in sight -/
namespace KM
/-- without the letters 0 at the end: how many letters stay of the first n -/
def strip (w : List Int) : Nat → Nat
  | 0 => 0
  | n + 1 => if w.getD n 1 = 0 then strip w n else n + 1
def second (w : List Int) : Option (List Int) :=
  if strip w w.length < 2 ∨ w.getD (strip w w.length - 1) 0 ≠ -1 then none else some (w.take (strip w w.length - 2))
def nears (w : List Int) : List (List Int) :=
  if w = [] then [] else w.dropLast :: (match second w with | none => [] | some u => [u])
def isCorner (w : List Int) (h : Nat) : Bool := (nears (w.take h)).length == 2
def corners (w : List Int) : List Int := ((List.range (w.length + 1)).filter (isCorner w)).map fun h : Nat => (h : Int)
end KM
set_option linter.all false
/-! the mirrors of orders, counts, generators -/
namespace KM
abbrev Pr := Option Int × Option Int
def addO : Option Int → Option Int → Option Int
  | _, none => none
  | none, some _ => none
  | some o, some q => some (o + q)
def stepO (p : Pr) (a : Int) : Pr := if a = -1 then (addO p.1 p.2, p.1) else if a = 0 then (p.1, addO p.1 p.2) else (p.1, p.1)
def states (p : Pr) : List Int → List Pr
  | [] => [p]
  | a :: r => p :: states (stepO p a) r
def ordersM (w : List Int) : List Pr := (states (some 1, none) w.reverse).reverse
def cnt : Pr → Int
  | (some o, some q) => if q < o then q else o
  | (some o, none) => o
  | (none, some q) => q
  | (none, none) => 0
def countsM (w : List Int) (n : Nat) : List Int := ((ordersM w).map cnt ++ List.replicate n 1).take n
def genGo (C : List Int) (found : List Int) (shared squares : Int) (h : Nat) : List Int → List Int
  | [] => found
  | c :: cs =>
    if C.contains (h : Int) && !C.contains ((h : Int) + 1) then genGo C (found ++ [(squares + c * c) / shared]) c (squares + c * c) (h + 1) cs
    else genGo C found shared (squares + c * c) (h + 1) cs
def gensM (w : List Int) : List Int := genGo (corners w) [(countsM w (w.length + 1)).getD 0 0] ((countsM w (w.length + 1)).getD 0 0) 0 0 (countsM w (w.length + 1))
def kdSize (w : List Int) : Int := match (corners w).getLast? with | none => 0 | some c => c + 1
/-! ### what holds on the way -/
/-- both there, from 1 on, at most b -/
def Both (b : Int) (p : Pr) : Prop := ∃ o q, p = (some o, some q) ∧ 1 ≤ o ∧ o ≤ b ∧ 1 ≤ q ∧ q ≤ b
theorem Both.step {b : Int} {p : Pr} (h : Both b p) (a : Int) : Both (2 * b) (stepO p a) := by
  obtain ⟨o, q, rfl, h1, h2, h3, h4⟩ := h
  unfold stepO
  by_cases e1 : a = -1
  · rw [if_pos e1]
    exact ⟨o + q, o, rfl, by omega, by omega, by omega, by omega⟩
  · rw [if_neg e1]
    by_cases e2 : a = 0
    · rw [if_pos e2]
      exact ⟨o, o + q, rfl, by omega, by omega, by omega, by omega⟩
    · rw [if_neg e2]
      exact ⟨o, o, rfl, by omega, by omega, by omega, by omega⟩
theorem Both.all : ∀ (l : List Int) {b : Int} {p : Pr}, Both b p → ∀ x ∈ states p l, ∃ k : Nat, k ≤ l.length ∧ Both (2 ^ k * b) x
  | [], b, p, h, x, hx => by
    have e : x = p := by simpa [states] using hx
    subst e
    exact ⟨0, Nat.le_refl _, by simpa using h⟩
  | a :: r, b, p, h, x, hx => by
    rcases List.mem_cons.mp hx with rfl | hx
    · exact ⟨0, Nat.zero_le _, by simpa using h⟩
    · obtain ⟨k, hk, hb⟩ := Both.all r (h.step a) x hx
      refine ⟨k + 1, by simpa using hk, ?_⟩
      have e : (2 : Int) ^ (k + 1) * b = 2 ^ k * (2 * b) := by rw [Int.pow_succ, Int.mul_assoc]
      rw [e]
      exact hb
/-- the words that the walk meets -/
def Valid (w : List Int) : Prop := w = [] ∨ w = [-1] ∨ ∃ l r, w.reverse = l :: r ∧ 0 < l
/-- what each state is -/
def GoodP (p : Pr) : Prop := (p = (some 1, none)) ∨ (p = (none, some 1)) ∨ ∃ k : Nat, k ≤ 100 ∧ Both (2 ^ k) p
theorem states_good {w : List Int} (v : Valid w) (hl : w.length ≤ 100) : ∀ x ∈ states (some 1, none) w.reverse, GoodP x := by
  rcases v with rfl | rfl | ⟨l, r, e, h⟩
  · intro x hx
    have hx' : x ∈ [((some 1, none) : Pr)] := hx
    rw [List.mem_singleton.mp hx']
    exact .inl rfl
  · intro x hx
    have hx' : x ∈ [((some 1, none) : Pr), (none, some 1)] := hx
    rcases List.mem_cons.mp hx' with rfl | hx'
    · exact .inl rfl
    · rw [List.mem_singleton.mp hx']
      exact .inr (.inl rfl)
  · intro x hx
    have hr : w.length = r.length + 1 := by
      have := congrArg List.length e
      simpa using this
    rw [e] at hx
    rcases List.mem_cons.mp hx with rfl | hx
    · exact .inl rfl
    · have s1 : stepO (some 1, none) l = (some 1, some 1) := by
        unfold stepO
        rw [if_neg (by omega), if_neg (by omega)]
      rw [s1] at hx
      obtain ⟨k, hk, hb⟩ := Both.all r (b := 1) ⟨1, 1, rfl, by omega, by omega, by omega, by omega⟩ x hx
      refine .inr (.inr ⟨k, by omega, ?_⟩)
      rw [Int.mul_one] at hb
      exact hb
/-- ahead of each letter the first order is there -/
theorem states_first {w : List Int} (v : Valid w) : ∀ i, i < w.length → ∃ o, ((w.reverse.take i).foldl stepO (some 1, none)).1 = some o := by
  have both : ∀ (l : List Int) (p : Pr), (∃ o q, p = (some o, some q)) → ∃ o q, l.foldl stepO p = (some o, some q) := by
    intro l
    induction l with
    | nil => intro p h; exact h
    | cons a r ih =>
      intro p ⟨o, q, h⟩
      rw [List.foldl_cons]
      apply ih
      subst h
      unfold stepO
      split
      · exact ⟨_, _, rfl⟩
      · split
        · exact ⟨_, _, rfl⟩
        · exact ⟨_, _, rfl⟩
  intro i hi
  cases i with
  | zero => exact ⟨1, rfl⟩
  | succ i =>
    rcases v with rfl | rfl | ⟨l, r, e, h⟩
    · simp at hi
    · simp at hi
    · rw [e, List.take_succ_cons, List.foldl_cons]
      have s1 : stepO (some 1, none) l = (some 1, some 1) := by
        unfold stepO
        rw [if_neg (by omega), if_neg (by omega)]
      rw [s1]
      obtain ⟨o, q, h⟩ := both (r.take i) _ ⟨1, 1, rfl⟩
      exact ⟨o, by rw [h]⟩
theorem states_len : ∀ (l : List Int) (p : Pr), (states p l).length = l.length + 1
  | [], _ => rfl
  | a :: r, p => congrArg (· + 1) (states_len r (stepO p a))
theorem states_snoc : ∀ (l : List Int) (p : Pr) (a : Int), states p (l ++ [a]) = states p l ++ [stepO (l.foldl stepO p) a]
  | [], _, _ => rfl
  | b :: r, p, a => by
    show p :: states (stepO p b) (r ++ [a]) = p :: (states (stepO p b) r ++ [_])
    rw [states_snoc r (stepO p b) a]
    rfl
theorem states_last : ∀ (l : List Int) (p : Pr), ∃ xs, states p l = xs ++ [l.foldl stepO p]
  | [], p => ⟨[], rfl⟩
  | a :: r, p => by
    obtain ⟨xs, e⟩ := states_last r (stepO p a)
    exact ⟨p :: xs, by show p :: states (stepO p a) r = _; rw [e]; rfl⟩
theorem orders_len (w : List Int) : (ordersM w).length = w.length + 1 := by
  unfold ordersM
  rw [List.length_reverse, states_len, List.length_reverse]
theorem orders_good {w : List Int} (v : Valid w) (hl : w.length ≤ 100) : ∀ x ∈ ordersM w, GoodP x := fun x hx => states_good v hl x (by
  unfold ordersM at hx
  exact List.mem_reverse.mp hx)
theorem GoodP.cnt {p : Pr} (h : GoodP p) : 1 ≤ cnt p ∧ cnt p < 2 ^ 101 := by
  have big : (1 : Int) < 2 ^ 101 := by decide
  rcases h with rfl | rfl | ⟨k, hk, o, q, rfl, h1, h2, h3, h4⟩
  · exact ⟨Int.le_refl _, big⟩
  · exact ⟨Int.le_refl _, big⟩
  · have hp : (2 : Int) ^ k ≤ 2 ^ 100 := by
      have h : (2 : Nat) ^ k ≤ 2 ^ 100 := Nat.pow_le_pow_right (by decide) hk
      exact_mod_cast h
    have hp2 : (2 : Int) ^ 100 < 2 ^ 101 := by decide
    show 1 ≤ (if q < o then q else o) ∧ (if q < o then q else o) < (2 : Int) ^ 101
    split <;> omega
theorem counts_len (w : List Int) (n : Nat) : (countsM w n).length = n := by
  unfold countsM
  rw [List.length_take, List.length_append, List.length_replicate]
  omega
theorem counts_good {w : List Int} (v : Valid w) (hl : w.length ≤ 100) (n : Nat) : ∀ c ∈ countsM w n, 1 ≤ c ∧ c < 2 ^ 101 := by
  intro c hc
  have hc := List.mem_of_mem_take hc
  rcases List.mem_append.mp hc with h | h
  · obtain ⟨p, hp, rfl⟩ := List.mem_map.mp h
    exact (orders_good v hl p hp).cnt
  · rw [(List.mem_replicate.mp h).2]
    exact ⟨by omega, by decide⟩
end KM
set_option linter.all false
/-! the mirrors of the law's word checks, all words of a length, the least -/
namespace KM
def wdPoint (p : Int) (w : List Int) : Bool := decide (w.length ≤ 60) && w.all fun a => decide (-1 ≤ a) && decide (a < p)
def wdWord (p : Int) (w : List Int) : Bool := wdPoint p w && ([[], [-1]].contains w || decide (0 < w.getLastD 1))
/-- the letters lo, lo + 1, .. , n of them -/
def lets (lo : Int) (n : Nat) : List Int := (List.range n).map fun i : Nat => lo + (i : Int)
def ext (ls : List Int) (l : List (List Int)) : List (List Int) := l.flatMap fun b => ls.map fun a => b ++ [a]
def begun (p : Nat) : Nat → List (List Int)
  | 0 => [[]]
  | k + 1 => ext (lets (-1) (p + 1)) (begun p k)
def allM (p : Nat) : Nat → List (List Int)
  | 0 => [[]]
  | n + 1 => ext (lets 1 (p - 1)) (begun p n) ++ if n = 0 then [[-1]] else []
theorem lets_len (lo : Int) (n : Nat) : (lets lo n).length = n := by simp [lets]
theorem ext_len (ls : List Int) : ∀ l : List (List Int), (ext ls l).length = l.length * ls.length
  | [] => by simp [ext]
  | b :: l => by
    show ((ls.map fun a => b ++ [a]) ++ ext ls l).length = _
    rw [List.length_append, List.length_map, ext_len ls l, List.length_cons, Nat.succ_mul]
    omega
theorem ext_append (ls : List Int) (a b : List (List Int)) : ext ls (a ++ b) = ext ls a ++ ext ls b := List.flatMap_append
theorem begun_len (p : Nat) : ∀ k, (begun p k).length = (p + 1) ^ k
  | 0 => rfl
  | k + 1 => by
    show (ext _ (begun p k)).length = _
    rw [ext_len, lets_len, begun_len p k, Nat.pow_succ]
theorem ext_word (ls : List Int) (l : List (List Int)) {w : List Int} (h : w ∈ ext ls l) : ∃ b ∈ l, ∃ a ∈ ls, w = b ++ [a] := by
  obtain ⟨b, hb, h⟩ := List.mem_flatMap.mp h
  obtain ⟨a, ha, rfl⟩ := List.mem_map.mp h
  exact ⟨b, hb, a, ha, rfl⟩
theorem begun_size (p : Nat) : ∀ k, ∀ w ∈ begun p k, w.length = k
  | 0, w, h => by
    have e : w = [] := by simpa [begun] using h
    subst e
    rfl
  | k + 1, w, h => by
    obtain ⟨b, hb, a, ha, rfl⟩ := ext_word _ _ h
    rw [List.length_append, begun_size p k b hb]
    rfl
theorem lets_mem {lo : Int} {n : Nat} {a : Int} : a ∈ lets lo n ↔ lo ≤ a ∧ a < lo + n := by
  unfold lets
  rw [List.mem_map]
  constructor
  · rintro ⟨i, hi, rfl⟩
    have := List.mem_range.mp hi
    omega
  · rintro ⟨h1, h2⟩
    exact ⟨(a - lo).toNat, List.mem_range.mpr (by omega), by omega⟩
theorem all_word {p n : Nat} {w : List Int} (h : w ∈ allM p n) : Valid w ∧ w.length = n := by
  cases n with
  | zero =>
    have e : w = [] := by simpa [allM] using h
    subst e
    exact ⟨.inl rfl, rfl⟩
  | succ n =>
    rcases List.mem_append.mp h with h | h
    · obtain ⟨b, hb, a, ha, rfl⟩ := ext_word _ _ h
      refine ⟨.inr (.inr ⟨a, b.reverse, by simp, by have := (lets_mem.mp ha).1; omega⟩), ?_⟩
      rw [List.length_append, begun_size p n b hb]
      rfl
    · by_cases hn : n = 0
      · rw [if_pos hn] at h
        have e := List.mem_singleton.mp h
        subst e
        subst hn
        exact ⟨.inr (.inl rfl), rfl⟩
      · rw [if_neg hn] at h
        cases h
end KM
set_option linter.all false
/-! what a kin of a word is -/
namespace KM
/-- the letter a may stand at i in a kin of w -/
def FL (p : Int) (w : List Int) (i : Nat) (a : Int) : Prop :=
  if i = 0 then -1 ≤ a ∧ a < p else if (corners w).contains ((i : Int) + 1) = true then w[i]? = some a else if (corners w).contains (i : Int) = true then 1 ≤ a ∧ a < p else 0 ≤ a ∧ a < p
def KinOf (p : Int) (w kin : List Int) : Prop :=
  (corners w = [] ∧ ∃ l : List Int, kin = l ++ [1] ∧ l.length ≤ 4 ∧ ∀ a ∈ l, 0 ≤ a ∧ a < p) ∨
  (corners w ≠ [] ∧ ∃ f m : List Int, kin = f ++ m ++ (if m = [] then [] else [1]) ∧ f.length = (kdSize w).toNat ∧ m.length ≤ 3 ∧ (∀ a ∈ m, 0 ≤ a ∧ a < p) ∧ ∀ i a, f[i]? = some a → FL p w i a)
theorem corner_mem {w : List Int} {h : Int} (hc : h ∈ corners w) : ∃ n : Nat, h = n ∧ n ≤ w.length ∧ isCorner w n = true := by
  unfold corners at hc
  obtain ⟨n, hn, rfl⟩ := List.mem_map.mp hc
  have := List.mem_filter.mp hn
  exact ⟨n, rfl, by have := List.mem_range.mp this.1; omega, this.2⟩
theorem kdSize_le (w : List Int) : kdSize w ≤ w.length + 1 ∧ 0 ≤ kdSize w := by
  unfold kdSize
  cases e : (corners w).getLast? with
  | none => exact ⟨by simp only; omega, by simp only; omega⟩
  | some c =>
    obtain ⟨n, rfl, hn, _⟩ := corner_mem (List.mem_of_getLast? e)
    exact ⟨by simp only; omega, by simp only; omega⟩
theorem kdSize_pos {w : List Int} (h : corners w ≠ []) : 1 ≤ kdSize w := by
  unfold kdSize
  cases e : (corners w).getLast? with
  | none => exact absurd (List.getLast?_eq_none_iff.mp e) h
  | some c =>
    obtain ⟨n, rfl, hn, _⟩ := corner_mem (List.mem_of_getLast? e)
    simp only
    omega
end KM
set_option linter.all false
/-! the mirror of the kind -/
namespace KM
inductive Fm | fixed | live | free | first
deriving DecidableEq, Repr
def stepF (prev : Option Fm) (a : Int) : Fm :=
  match prev with
  | none => .first
  | some f => if a = -1 then .fixed else if f = .fixed then (if a = 0 then .fixed else .live) else .free
def formsFrom (prev : Option Fm) : List Int → List Fm
  | [] => []
  | a :: r => stepF prev a :: formsFrom (some (stepF prev a)) r
def formsM (w : List Int) : List Fm := formsFrom none w
theorem formsFrom_len : ∀ (w : List Int) (p : Option Fm), (formsFrom p w).length = w.length
  | [], _ => rfl
  | a :: r, p => congrArg (· + 1) (formsFrom_len r _)
theorem formsM_len (w : List Int) : (formsM w).length = w.length := formsFrom_len w none
theorem formsFrom_snoc : ∀ (w : List Int) (p : Option Fm) (a : Int), formsFrom p (w ++ [a]) = formsFrom p w ++ [stepF (match (formsFrom p w).getLast? with | none => p | some f => some f) a]
  | [], _, _ => rfl
  | b :: r, p, a => by
    show stepF p b :: formsFrom (some (stepF p b)) (r ++ [a]) = stepF p b :: (formsFrom (some (stepF p b)) r ++ [_])
    rw [formsFrom_snoc r (some (stepF p b)) a]
    congr 3
    rw [show formsFrom p (b :: r) = stepF p b :: formsFrom (some (stepF p b)) r from rfl, List.getLast?_cons]
    cases (formsFrom (some (stepF p b)) r).getLast? <;> rfl
theorem formsM_snoc (w : List Int) (a : Int) : formsM (w ++ [a]) = formsM w ++ [stepF (formsM w).getLast? a] := by
  unfold formsM
  rw [formsFrom_snoc]
  congr 3
  cases (formsFrom none w).getLast? <;> rfl
def leastM (f : Fm) (a : Int) : Int := match f with | .first => -1 | .fixed => a | .live => 1 | .free => 0
/-- one behind the last live one of the first n -/
def sizeM (fs : List Fm) : Nat → Nat
  | 0 => 0
  | n + 1 => if fs[n]? = some .live then n + 1 else sizeM fs n
theorem sizeM_le (fs : List Fm) : ∀ n, sizeM fs n ≤ n
  | 0 => Nat.le_refl _
  | n + 1 => by
    unfold sizeM
    split
    · exact Nat.le_refl _
    · exact Nat.le_succ_of_le (sizeM_le fs n)
def kindM (w : List Int) : List Int := List.zipWith leastM ((formsM w).take (sizeM (formsM w) w.length)) w
end KM
set_option linter.all false
/-! forms by a flag; corners by forms -/
namespace KM
def form (b : Bool) (a : Int) : Fm := if a = -1 then .fixed else if b = true then (if a = 0 then .fixed else .live) else .free
def isF : Fm → Bool
  | .fixed => true
  | _ => false
def fr : Bool → List Int → List Fm
  | _, [] => []
  | b, a :: r => form b a :: fr (isF (form b a)) r
theorem formsFrom_fr : ∀ (r : List Int) (f : Fm), formsFrom (some f) r = fr (isF f) r
  | [], _ => rfl
  | a :: r, f => by
    have e : stepF (some f) a = form (isF f) a := by
      unfold stepF form
      cases f <;> simp [isF]
    show stepF (some f) a :: formsFrom (some (stepF (some f) a)) r = _
    rw [e, formsFrom_fr]
    rfl
theorem formsM_cons (a : Int) (r : List Int) : formsM (a :: r) = .first :: fr false r := by
  show Fm.first :: formsFrom (some .first) r = _
  rw [formsFrom_fr]
  rfl
theorem fr_len : ∀ (v : List Int) (b : Bool), (fr b v).length = v.length
  | [], _ => rfl
  | a :: r, b => congrArg (· + 1) (fr_len r _)
/-! ### the kind from the left -/
def ks : Bool → List Int → List Int
  | _, [] => []
  | b, a :: r => if ks (isF (form b a)) r = [] ∧ form b a ≠ .live then [] else leastM (form b a) a :: ks (isF (form b a)) r
theorem sizeM_cons (f : Fm) (r : List Fm) : ∀ n, sizeM (f :: r) (n + 1) = if sizeM r n = 0 then (if f = .live then 1 else 0) else sizeM r n + 1
  | 0 => by
    show (if (f :: r)[0]? = some .live then 0 + 1 else sizeM (f :: r) 0) = _
    rw [show sizeM r 0 = 0 from rfl, if_pos rfl, show sizeM (f :: r) 0 = 0 from rfl]
    by_cases h : f = .live
    · subst h
      rfl
    · rw [if_neg h, if_neg]
      simpa using h
  | n + 1 => by
    have ih := sizeM_cons f r n
    show (if (f :: r)[n + 1]? = some .live then n + 1 + 1 else sizeM (f :: r) (n + 1)) = if sizeM r (n + 1) = 0 then _ else _
    rw [List.getElem?_cons_succ]
    by_cases h : r[n]? = some .live
    · rw [if_pos h, show sizeM r (n + 1) = n + 1 from if_pos h, if_neg (by omega)]
    · rw [if_neg h, show sizeM r (n + 1) = sizeM r n from if_neg h, ih]
theorem ks_take : ∀ (v : List Int) (b : Bool), List.zipWith leastM ((fr b v).take (sizeM (fr b v) v.length)) v = ks b v ∧ (ks b v).length = sizeM (fr b v) v.length
  | [], _ => ⟨rfl, rfl⟩
  | a :: r, b => by
    obtain ⟨ih1, ih2⟩ := ks_take r (isF (form b a))
    have hc : sizeM (fr b (a :: r)) (r.length + 1) = _ := sizeM_cons (form b a) (fr (isF (form b a)) r) r.length
    have hk : ks b (a :: r) = if ks (isF (form b a)) r = [] ∧ form b a ≠ .live then [] else leastM (form b a) a :: ks (isF (form b a)) r := rfl
    show List.zipWith leastM ((fr b (a :: r)).take (sizeM (fr b (a :: r)) (r.length + 1))) (a :: r) = _ ∧ _ = sizeM (fr b (a :: r)) (r.length + 1)
    rw [hc, hk]
    have hfr : fr b (a :: r) = form b a :: fr (isF (form b a)) r := rfl
    rw [hfr]
    by_cases h0 : sizeM (fr (isF (form b a)) r) r.length = 0
    · have hnil : ks (isF (form b a)) r = [] := List.eq_nil_of_length_eq_zero (by omega)
      rw [if_pos h0]
      by_cases hl : form b a = .live
      · rw [if_pos hl, if_neg (by rintro ⟨_, h⟩; exact h hl), hnil]
        exact ⟨rfl, rfl⟩
      · rw [if_neg hl, if_pos ⟨hnil, hl⟩]
        exact ⟨rfl, rfl⟩
    · have hne : ks (isF (form b a)) r ≠ [] := fun e => h0 (by rw [← ih2, e]; rfl)
      rw [if_neg h0, if_neg (fun h => hne h.1)]
      refine ⟨?_, ?_⟩
      · rw [List.take_succ_cons, List.zipWith_cons_cons, ih1]
      · rw [List.length_cons, ih2]
theorem kindM_nil : kindM [] = [] := rfl
theorem kindM_cons (a : Int) (r : List Int) : kindM (a :: r) = if ks false r = [] then [] else -1 :: ks false r := by
  obtain ⟨h1, h2⟩ := ks_take r false
  have hc := sizeM_cons .first (fr false r) r.length
  show List.zipWith leastM ((formsM (a :: r)).take (sizeM (formsM (a :: r)) (r.length + 1))) (a :: r) = _
  rw [formsM_cons, hc]
  by_cases h0 : sizeM (fr false r) r.length = 0
  · have hnil : ks false r = [] := List.eq_nil_of_length_eq_zero (by omega)
    rw [if_pos h0, if_neg (by decide), if_pos hnil]
    rfl
  · have hne : ks false r ≠ [] := fun e => h0 (by rw [← h2, e]; rfl)
    rw [if_neg h0, if_neg hne, List.take_succ_cons, List.zipWith_cons_cons, h1]
    rfl
theorem kindM_len (w : List Int) : (kindM w).length = sizeM (formsM w) w.length := by
  have := sizeM_le (formsM w) w.length
  unfold kindM
  rw [List.length_zipWith, List.length_take, formsM_len]
  omega
theorem kindM_le (w : List Int) : (kindM w).length ≤ w.length := by
  rw [kindM_len]
  exact sizeM_le _ _
/-! ### corners by forms -/
def hasC (u : List Int) : Bool := (second u).isSome
theorem strip_le (w : List Int) : ∀ n, strip w n ≤ n
  | 0 => Nat.le_refl _
  | n + 1 => by
    unfold strip
    split
    · exact Nat.le_succ_of_le (strip_le w n)
    · exact Nat.le_refl _
theorem strip_append (u v : List Int) : ∀ n, n ≤ u.length → strip (u ++ v) n = strip u n
  | 0, _ => rfl
  | n + 1, h => by
    unfold strip
    have e : (u ++ v).getD n 1 = u.getD n 1 := by
      rw [List.getD_eq_getElem?_getD, List.getD_eq_getElem?_getD, List.getElem?_append_left (by omega)]
    rw [e, strip_append u v n (by omega)]
theorem hasC_eq (u : List Int) : hasC u = decide (2 ≤ strip u u.length ∧ u.getD (strip u u.length - 1) 0 = -1) := by
  unfold hasC second
  by_cases h : strip u u.length < 2 ∨ u.getD (strip u u.length - 1) 0 ≠ -1
  · rw [if_pos h, decide_eq_false]
    · rfl
    · rintro ⟨h1, h2⟩
      rcases h with h | h
      · omega
      · exact h h2
  · rw [if_neg h, decide_eq_true]
    · rfl
    · refine ⟨?_, ?_⟩
      · exact Nat.le_of_not_lt fun z => h (.inl z)
      · exact Decidable.not_not.mp fun z => h (.inr z)
theorem hasC_snoc (u : List Int) (a : Int) : hasC (u ++ [a]) = if a = 0 then hasC u else (decide (a = -1) && decide (u ≠ [])) := by
  rw [hasC_eq, hasC_eq, List.length_append]
  have hs : strip (u ++ [a]) (u.length + [a].length) = if a = 0 then strip u u.length else u.length + 1 := by
    show (if (u ++ [a]).getD u.length 1 = 0 then strip (u ++ [a]) u.length else u.length + 1) = _
    have e : (u ++ [a]).getD u.length 1 = a := by
      rw [List.getD_eq_getElem?_getD, List.getElem?_append_right (Nat.le_refl _), Nat.sub_self]
      rfl
    rw [e, strip_append u [a] u.length (Nat.le_refl _)]
  rw [hs]
  by_cases h : a = 0
  · rw [if_pos h, if_pos h]
    have hl := strip_le u u.length
    by_cases h2 : 2 ≤ strip u u.length
    · have e : (u ++ [a]).getD (strip u u.length - 1) 0 = u.getD (strip u u.length - 1) 0 := by
        rw [List.getD_eq_getElem?_getD, List.getD_eq_getElem?_getD, List.getElem?_append_left (by omega)]
      rw [e]
    · rw [decide_eq_false (fun z => h2 z.1), decide_eq_false (fun z => h2 z.1)]
  · rw [if_neg h, if_neg h]
    have e : (u ++ [a]).getD (u.length + 1 - 1) 0 = a := by
      rw [List.getD_eq_getElem?_getD, Nat.add_sub_cancel, List.getElem?_append_right (Nat.le_refl _), Nat.sub_self]
      rfl
    rw [e, ← Bool.decide_and]
    congr 1
    rw [← List.length_pos_iff]
    apply propext
    constructor
    · rintro ⟨h1, h2⟩
      exact ⟨h2, by omega⟩
    · rintro ⟨h1, h2⟩
      exact ⟨by omega, h1⟩
theorem hasC_last : ∀ (n : Nat) (u : List Int), u.length = n → hasC u = decide ((formsM u).getLast? = some .fixed)
  | 0, u, h => by
    have e := List.eq_nil_of_length_eq_zero h
    subst e
    rfl
  | n + 1, u, h => by
    rcases List.eq_nil_or_concat u with rfl | ⟨v, a, e⟩
    · simp at h
    · rw [List.concat_eq_append] at e
      subst e
      have hv : v.length = n := by simpa using h
      have ih := hasC_last n v hv
      rw [hasC_snoc, formsM_snoc, List.getLast?_concat, ih]
      have hn : (formsM v).getLast? = none ↔ v = [] := by
        rw [List.getLast?_eq_none_iff, ← List.length_eq_zero_iff, formsM_len, List.length_eq_zero_iff]
      cases hg : (formsM v).getLast? with
      | none =>
        have hv0 := hn.mp hg
        subst hv0
        by_cases h0 : a = 0 <;> simp [h0, stepF]
      | some f =>
        have hv0 : v ≠ [] := fun z => by
          rw [hn.mpr z] at hg
          cases hg
        by_cases h0 : a = 0
        · subst h0
          cases f <;> simp [stepF]
        · by_cases h1 : a = -1
          · subst h1
            simp [stepF, hv0]
          · cases f <;> simp [stepF, h0, h1]
theorem isCorner_hasC (w : List Int) (h : Nat) : isCorner w h = hasC (w.take h) := by
  unfold isCorner nears hasC
  by_cases e : w.take h = []
  · rw [if_pos e, e]
    rfl
  · rw [if_neg e]
    cases second (w.take h) <;> rfl
theorem formsFrom_append : ∀ (u v : List Int) (p : Option Fm), ∃ t, formsFrom p (u ++ v) = formsFrom p u ++ t
  | [], v, p => ⟨_, rfl⟩
  | a :: u, v, p => by
    obtain ⟨t, ht⟩ := formsFrom_append u v (some (stepF p a))
    exact ⟨t, by show stepF p a :: formsFrom _ (u ++ v) = stepF p a :: (formsFrom _ u ++ t); rw [ht]⟩
theorem formsM_take (w : List Int) (h : Nat) : formsM (w.take h) = (formsM w).take h := by
  obtain ⟨t, ht⟩ := formsFrom_append (w.take h) (w.drop h) none
  rw [List.take_append_drop] at ht
  by_cases hl : h ≤ w.length
  · have hlen : (formsM (w.take h)).length = h := by
      rw [formsM_len, List.length_take]
      omega
    show _ = (formsFrom none w).take h
    rw [ht]
    show formsM (w.take h) = (formsM (w.take h) ++ t).take h
    rw [List.take_append_of_le_length (by omega)]
    exact (List.take_of_length_le (by omega)).symm
  · rw [List.take_of_length_le (by omega), List.take_of_length_le (by rw [formsM_len]; omega)]
/-- fixed ahead of the height -/
def cF (fs : List Fm) : Nat → Bool
  | 0 => false
  | h + 1 => decide (fs[h]? = some .fixed)
theorem isCorner_cF (w : List Int) {h : Nat} (hl : h ≤ w.length) : isCorner w h = cF (formsM w) h := by
  rw [isCorner_hasC, hasC_last _ _ rfl, formsM_take]
  cases h with
  | zero => rfl
  | succ h =>
    unfold cF
    congr 2
    rw [List.getLast?_eq_getElem?, List.length_take, formsM_len, List.getElem?_take]
    rw [if_pos (by omega)]
    congr 1
    omega
theorem mem_corners (w : List Int) (h : Nat) : (corners w).contains (h : Int) = cF (formsM w) h := by
  rw [Bool.eq_iff_iff, List.contains_iff_mem]
  unfold corners
  rw [List.mem_map]
  constructor
  · rintro ⟨n, hn, e⟩
    have e' : n = h := by omega
    subst e'
    obtain ⟨h1, h2⟩ := List.mem_filter.mp hn
    rw [isCorner_cF w (by have := List.mem_range.mp h1; omega)] at h2
    exact h2
  · intro hc
    have hl : h ≤ w.length := by
      cases h with
      | zero => omega
      | succ h =>
        have := of_decide_eq_true (show decide ((formsM w)[h]? = some Fm.fixed) = true from hc)
        have := (List.getElem?_eq_some_iff.mp this).1
        rw [formsM_len] at this
        omega
    exact ⟨h, List.mem_filter.mpr ⟨List.mem_range.mpr (by omega), by rw [isCorner_cF w hl]; exact hc⟩, rfl⟩
end KM
set_option linter.all false
namespace KM
/-! ### words that end well -/
def lastPos : List Int → Prop
  | [] => True
  | [a] => 0 < a
  | _ :: b :: r => lastPos (b :: r)
def Ok (b : Bool) (v : List Int) : Prop := (v = [] → b = false) ∧ lastPos v
theorem form_pos {b : Bool} {a : Int} (h : 0 < a) : isF (form b a) = false := by
  unfold form
  rw [if_neg (by omega)]
  cases b
  · rfl
  · rw [if_pos rfl, if_neg (by omega)]
    rfl
theorem Ok.tail {b : Bool} {a : Int} {r : List Int} (h : Ok b (a :: r)) : Ok (isF (form b a)) r := by
  cases r with
  | nil => exact ⟨fun _ => form_pos h.2, trivial⟩
  | cons c r => exact ⟨fun z => (nomatch z), h.2⟩
theorem lastPos_snoc : ∀ (u : List Int) (a : Int), 0 < a → lastPos (u ++ [a])
  | [], a, h => h
  | [b], a, h => h
  | b :: c :: u, a, h => lastPos_snoc (c :: u) a h
theorem Valid.ok {a : Int} {r : List Int} (h : Valid (a :: r)) : Ok false r := by
  rcases h with h | h | ⟨l, t, e, hl⟩
  · cases h
  · cases h
    exact ⟨fun _ => rfl, trivial⟩
  · refine ⟨fun _ => rfl, ?_⟩
    have e2 : a :: r = t.reverse ++ [l] := by
      have := congrArg List.reverse e
      simpa using this
    have := lastPos_snoc t.reverse l hl
    rw [← e2] at this
    cases r with
    | nil => trivial
    | cons c r => exact this
/-! ### the orders from the right -/
def st : List Int → Pr
  | [] => (some 1, none)
  | a :: r => stepO (st r) a
theorem foldl_st (r : List Int) : r.reverse.foldl stepO (some 1, none) = st r := by
  rw [List.foldl_reverse]
  induction r with
  | nil => rfl
  | cons a r ih => rw [List.foldr_cons, ih]; rfl
theorem orders_cons (a : Int) (r : List Int) : ordersM (a :: r) = st (a :: r) :: ordersM r := by
  unfold ordersM
  rw [List.reverse_cons, states_snoc, List.reverse_append, foldl_st]
  rfl
def cl : List Int → List Int
  | [] => [1]
  | a :: r => cnt (st (a :: r)) :: cl r
theorem cl_orders : ∀ w : List Int, (ordersM w).map cnt = cl w
  | [] => rfl
  | a :: r => by rw [orders_cons, List.map_cons, cl_orders r]; rfl
theorem cl_cons (w : List Int) : ∃ t, cl w = cnt (st w) :: t := by
  cases w with
  | nil => exact ⟨[], rfl⟩
  | cons a r => exact ⟨cl r, rfl⟩
theorem counts_cl (w : List Int) : countsM w (w.length + 1) = cl w := by
  unfold countsM
  rw [cl_orders]
  have hl : (cl w).length = w.length + 1 := by rw [← cl_orders, List.length_map, orders_len]
  rw [List.take_append_of_le_length (by omega), List.take_of_length_le (by omega)]
/-! ### the generators by forms -/
def gF (found : List Int) (sh sq : Int) : List Fm → List Int → List Int
  | f :: fs, c :: cs => if f = .live then gF (found ++ [(sq + c * c) / sh]) c (sq + c * c) fs cs else gF found sh (sq + c * c) fs cs
  | _, _ => found
theorem gF_step (found : List Int) (sh sq : Int) (f : Fm) (fs : List Fm) (c : Int) (cs : List Int) :
    gF found sh sq (f :: fs) (c :: cs) = if f = .live then gF (found ++ [(sq + c * c) / sh]) c (sq + c * c) fs cs else gF found sh (sq + c * c) fs cs := by rw [gF]
theorem gF_nil (found : List Int) (sh sq : Int) (cs : List Int) : gF found sh sq [] cs = found := by rw [gF]; exact fun _ _ _ _ h _ => nomatch h
theorem gF_nolive : ∀ (fs : List Fm) (found : List Int) (sh sq : Int) (cs : List Int), (∀ f ∈ fs, f ≠ .live) → gF found sh sq fs cs = found
  | [], found, sh, sq, cs, _ => gF_nil found sh sq cs
  | f :: fs, found, sh, sq, [], _ => by rw [gF]; exact fun _ _ _ _ _ h => nomatch h
  | f :: fs, found, sh, sq, c :: cs, h => by
    rw [gF_step, if_neg (h f (List.mem_cons_self ..))]
    exact gF_nolive fs _ _ _ _ fun g hg => h g (List.mem_cons_of_mem _ hg)
/-- the flag j letters on -/
def cfl : Bool → List Int → Nat → Bool
  | b, _, 0 => b
  | _, [], _ + 1 => false
  | b, a :: r, j + 1 => cfl (isF (form b a)) r j
theorem cfl0 (b : Bool) (v : List Int) : cfl b v 0 = b := by cases v <;> rfl
theorem isF_eq (f : Fm) : isF f = decide (f = .fixed) := by cases f <;> rfl
theorem cfl_fr : ∀ (v : List Int) (b : Bool) (i : Nat), cfl b v (i + 1) = decide ((fr b v)[i]? = some .fixed)
  | [], b, i => by
    show false = decide (([] : List Fm)[i]? = some .fixed)
    rw [List.getElem?_nil]
    rfl
  | a :: r, b, 0 => by
    show cfl (isF (form b a)) r 0 = decide (some (form b a) = some .fixed)
    rw [cfl0, isF_eq]
    simp
  | a :: r, b, i + 1 => by
    show cfl (isF (form b a)) r (i + 1) = decide ((form b a :: fr (isF (form b a)) r)[i + 1]? = some .fixed)
    rw [cfl_fr r, List.getElem?_cons_succ]
theorem live_flag (b : Bool) (a : Int) : decide (form b a = .live) = (b && !isF (form b a)) := by
  unfold form
  by_cases h1 : a = -1
  · rw [if_pos h1]
    cases b <;> rfl
  · rw [if_neg h1]
    cases b
    · rfl
    · rw [if_pos rfl]
      by_cases h0 : a = 0
      · rw [if_pos h0]
        rfl
      · rw [if_neg h0]
        rfl
theorem genGo_cons (C : List Int) (f : List Int) (sh sq : Int) (h : Nat) (c : Int) (cs : List Int) :
    genGo C f sh sq h (c :: cs) = if (C.contains (h : Int) && !C.contains ((h : Int) + 1)) = true then genGo C (f ++ [(sq + c * c) / sh]) c (sq + c * c) (h + 1) cs else genGo C f sh (sq + c * c) (h + 1) cs := rfl
theorem genGo_gF (C : List Int) : ∀ (v : List Int) (b : Bool) (h : Nat) (found : List Int) (sh sq : Int), Ok b v → (∀ j, C.contains ((h + j : Nat) : Int) = cfl b v j) →
    genGo C found sh sq h (cl v) = gF found sh sq (fr b v) (cl v)
  | [], b, h, found, sh, sq, ok, hC => by
    have h0 : C.contains (h : Int) = false := by rw [← ok.1 rfl]; exact hC 0
    show genGo C found sh sq h [1] = gF found sh sq [] [1]
    rw [genGo_cons, h0, Bool.false_and, if_neg (by decide), gF_nil]
    rfl
  | a :: r, b, h, found, sh, sq, ok, hC => by
    have h0 : C.contains (h : Int) = b := hC 0
    have h1 : C.contains ((h : Int) + 1) = isF (form b a) := by
      have := hC 1
      have e : cfl b (a :: r) 1 = isF (form b a) := by cases r <;> rfl
      rw [e] at this
      rw [← this]
      congr 1
    have hC' : ∀ j, C.contains ((h + 1 + j : Nat) : Int) = cfl (isF (form b a)) r j := fun j => by
      have := hC (j + 1)
      rw [show h + (j + 1) = h + 1 + j by omega] at this
      exact this
    have ecl : cl (a :: r) = cnt (st (a :: r)) :: cl r := rfl
    have efr : fr b (a :: r) = form b a :: fr (isF (form b a)) r := rfl
    rw [ecl, efr, genGo_cons, gF_step, h0, h1, ← live_flag]
    by_cases hl : form b a = .live
    · rw [if_pos hl, if_pos (decide_eq_true hl)]
      exact genGo_gF C r _ (h + 1) _ _ _ ok.tail hC'
    · rw [if_neg hl, if_neg (by rw [decide_eq_false hl]; decide)]
      exact genGo_gF C r _ (h + 1) _ _ _ ok.tail hC'
theorem gens_nil : gensM [] = [1] := by decide
theorem gens_cons {a : Int} {r : List Int} (ok : Ok false r) : gensM (a :: r) = gF [cnt (st (a :: r))] (cnt (st (a :: r))) (cnt (st (a :: r)) * cnt (st (a :: r))) (fr false r) (cl r) := by
  unfold gensM
  rw [counts_cl]
  have ecl : cl (a :: r) = cnt (st (a :: r)) :: cl r := rfl
  rw [ecl]
  show genGo _ [cnt (st (a :: r))] (cnt (st (a :: r))) 0 0 (cnt (st (a :: r)) :: cl r) = _
  have h0 : (corners (a :: r)).contains ((0 : Nat) : Int) = false := mem_corners _ 0
  rw [genGo_cons, h0, Bool.false_and, if_neg (by decide), Int.zero_add]
  refine genGo_gF _ r false 1 _ _ _ ok fun j => ?_
  rw [mem_corners, formsM_cons]
  rw [show 1 + j = j + 1 by omega]
  show decide ((Fm.first :: fr false r)[j]? = some .fixed) = _
  cases j with
  | zero =>
    rw [cfl0]
    rfl
  | succ j => rw [List.getElem?_cons_succ, ← cfl_fr]
end KM
set_option linter.all false
namespace KM
theorem st_pos : ∀ v : List Int, v ≠ [] → lastPos v → ∃ o q, st v = (some o, some q) ∧ 1 ≤ o ∧ 1 ≤ q
  | [], h, _ => absurd rfl h
  | [a], _, h => by
    have h' : 0 < a := h
    refine ⟨1, 1, ?_, by omega, by omega⟩
    show stepO (some 1, none) a = _
    unfold stepO
    rw [if_neg (by omega), if_neg (by omega)]
  | a :: b :: r, _, h => by
    obtain ⟨o, q, e, h1, h2⟩ := st_pos (b :: r) (by simp) h
    show ∃ o q, stepO (st (b :: r)) a = _ ∧ _
    rw [e]
    unfold stepO
    by_cases ha : a = -1
    · rw [if_pos ha]
      exact ⟨o + q, o, rfl, by omega, by omega⟩
    · rw [if_neg ha]
      by_cases h0 : a = 0
      · rw [if_pos h0]
        exact ⟨o, o + q, rfl, by omega, by omega⟩
      · rw [if_neg h0]
        exact ⟨o, o, rfl, by omega, by omega⟩
theorem ks_cons (b : Bool) (a : Int) (r : List Int) : ks b (a :: r) = if ks (isF (form b a)) r = [] ∧ form b a ≠ .live then [] else leastM (form b a) a :: ks (isF (form b a)) r := rfl
theorem ks_lastPos : ∀ (v : List Int) (b : Bool), lastPos (ks b v)
  | [], _ => trivial
  | a :: r, b => by
    have ih := ks_lastPos r (isF (form b a))
    rw [ks_cons]
    split
    · trivial
    · rename_i h
      cases e : ks (isF (form b a)) r with
      | nil =>
        have hl : form b a = .live := Decidable.not_not.mp fun z => h ⟨e, z⟩
        rw [hl]
        show (0 : Int) < 1
        decide
      | cons c t =>
        rw [e] at ih
        exact ih
theorem form_free {b : Bool} {a : Int} (h : form b a = .free) : b = false ∧ a ≠ -1 := by
  unfold form at h
  by_cases h1 : a = -1
  · rw [if_pos h1] at h
    cases h
  · rw [if_neg h1] at h
    cases b
    · exact ⟨rfl, h1⟩
    · rw [if_pos rfl] at h
      split at h <;> cases h
theorem form_live {b : Bool} {a : Int} (h : form b a = .live) : b = true ∧ a ≠ -1 ∧ a ≠ 0 := by
  unfold form at h
  by_cases h1 : a = -1
  · rw [if_pos h1] at h
    cases h
  · rw [if_neg h1] at h
    cases b
    · cases h
    · rw [if_pos rfl] at h
      by_cases h0 : a = 0
      · rw [if_pos h0] at h
        cases h
      · exact ⟨rfl, h1, h0⟩
theorem form_fixed {b : Bool} {a : Int} (h : form b a = .fixed) : a = -1 ∨ (b = true ∧ a = 0) := by
  unfold form at h
  by_cases h1 : a = -1
  · exact .inl h1
  · rw [if_neg h1] at h
    cases b
    · cases h
    · rw [if_pos rfl] at h
      by_cases h0 : a = 0
      · exact .inr ⟨rfl, h0⟩
      · rw [if_neg h0] at h
        cases h
theorem form_not_first {b : Bool} {a : Int} : form b a ≠ .first := by
  unfold form
  split
  · exact fun z => nomatch z
  · split
    · split <;> exact fun z => nomatch z
    · exact fun z => nomatch z
theorem form_least (b : Bool) (a : Int) : form b (leastM (form b a) a) = form b a := by
  cases h : form b a with
  | fixed => exact h
  | live =>
    obtain ⟨rfl, _, _⟩ := form_live h
    rfl
  | free =>
    obtain ⟨rfl, _⟩ := form_free h
    rfl
  | first => exact absurd h form_not_first
theorem cnt_free {o q : Int} {a : Int} (hq : 1 ≤ q) (h : a ≠ -1) : (stepO (some o, some q) a).1 = some o ∧ cnt (stepO (some o, some q) a) = o := by
  unfold stepO
  rw [if_neg h]
  by_cases h0 : a = 0
  · rw [if_pos h0]
    refine ⟨rfl, ?_⟩
    show (if o + q < o then o + q else o) = o
    rw [if_neg (by omega)]
  · rw [if_neg h0]
    refine ⟨rfl, ?_⟩
    show (if o < o then o else o) = o
    split <;> rfl
theorem ks_st : ∀ (v : List Int) (b : Bool), Ok b v → (st v).1 = (st (ks b v)).1 ∧ cnt (st v) = cnt (st (ks b v)) ∧ (b = true → st v = st (ks b v))
  | [], b, _ => ⟨rfl, rfl, fun _ => rfl⟩
  | a :: r, b, ok => by
    obtain ⟨i1, i2, i3⟩ := ks_st r (isF (form b a)) ok.tail
    have okt := ok.tail
    rw [ks_cons]
    by_cases hT : ks (isF (form b a)) r = [] ∧ form b a ≠ .live
    · rw [if_pos hT]
      rw [hT.1] at i1 i2 i3
      have hf : isF (form b a) = false := by
        cases hb : isF (form b a) with
        | false => rfl
        | true =>
          by_cases hr : r = []
          · rw [okt.1 hr] at hb
            cases hb
          · obtain ⟨o, q, e, _⟩ := st_pos r hr okt.2
            have := i3 hb
            rw [e] at this
            cases this
      have hfree : form b a = .free := by
        cases h : form b a with
        | free => rfl
        | fixed => rw [h] at hf; cases hf
        | live => exact absurd h hT.2
        | first => exact absurd h form_not_first
      obtain ⟨rfl, hne⟩ := form_free hfree
      refine ⟨?_, ?_, fun z => nomatch z⟩
      · by_cases hr : r = []
        · subst hr
          have ha : 0 < a := ok.2
          show (stepO (some 1, none) a).1 = some 1
          unfold stepO
          rw [if_neg (by omega), if_neg (by omega)]
        · obtain ⟨o, q, e, h1, h2⟩ := st_pos r hr okt.2
          show (stepO (st r) a).1 = some 1
          rw [e] at i1
          rw [e, (cnt_free h2 hne).1]
          exact i1
      · by_cases hr : r = []
        · subst hr
          have ha : 0 < a := ok.2
          show cnt (stepO (some 1, none) a) = 1
          unfold stepO
          rw [if_neg (by omega), if_neg (by omega)]
          rfl
        · obtain ⟨o, q, e, h1, h2⟩ := st_pos r hr okt.2
          show cnt (stepO (st r) a) = 1
          rw [e] at i1
          have e1 : o = 1 := by
            have : some o = some (1 : Int) := i1
            exact Option.some.inj this
          rw [e, (cnt_free h2 hne).2]
          exact e1
    · rw [if_neg hT]
      cases h : form b a with
      | fixed =>
        rw [h] at i3
        have e := i3 rfl
        have e2 : st (a :: r) = st (leastM .fixed a :: ks (isF .fixed) r) := by
          show stepO (st r) a = stepO (st (ks (isF .fixed) r)) a
          rw [e]
        exact ⟨by rw [e2], by rw [e2], fun _ => e2⟩
      | live =>
        rw [h] at i1
        obtain ⟨rfl, h1, h0⟩ := form_live h
        have e2 : st (a :: r) = st (leastM .live a :: ks (isF .live) r) := by
          show stepO (st r) a = stepO (st (ks (isF .live) r)) 1
          unfold stepO
          rw [if_neg h1, if_neg h0, if_neg (by decide), if_neg (by decide), i1]
        exact ⟨by rw [e2], by rw [e2], fun _ => e2⟩
      | free =>
        rw [h] at i1 hT okt
        obtain ⟨rfl, hne⟩ := form_free h
        have hk : ks (isF .free) r ≠ [] := fun z => hT ⟨z, fun z => nomatch z⟩
        have hr : r ≠ [] := fun z => hk (by rw [z]; rfl)
        obtain ⟨o, q, e, h1, h2⟩ := st_pos r hr okt.2
        obtain ⟨o', q', e', h1', h2'⟩ := st_pos _ hk (ks_lastPos r _)
        have eo : o = o' := by
          rw [e, e'] at i1
          exact Option.some.inj i1
        subst eo
        refine ⟨?_, ?_, fun z => nomatch z⟩
        · show (stepO (st r) a).1 = (stepO (st (ks (isF .free) r)) 0).1
          rw [e, e', (cnt_free h2 hne).1, (cnt_free h2' (by decide)).1]
        · show cnt (stepO (st r) a) = cnt (stepO (st (ks (isF .free) r)) 0)
          rw [e, e', (cnt_free h2 hne).2, (cnt_free h2' (by decide)).2]
      | first => exact absurd h form_not_first
theorem ks_nolive : ∀ (v : List Int) (b : Bool), ks b v = [] → ∀ f ∈ fr b v, f ≠ .live
  | [], b, _, f, hf => nomatch hf
  | a :: r, b, h, f, hf => by
    rw [ks_cons] at h
    split at h
    · rename_i hT
      rcases List.mem_cons.mp (show f ∈ form b a :: fr (isF (form b a)) r from hf) with rfl | hf
      · exact hT.2
      · exact ks_nolive r _ hT.1 f hf
    · cases h
theorem gF_ks : ∀ (v : List Int) (b : Bool) (found : List Int) (sh sq : Int), Ok b v → gF found sh sq (fr b v) (cl v) = gF found sh sq (fr b (ks b v)) (cl (ks b v))
  | [], b, found, sh, sq, _ => rfl
  | a :: r, b, found, sh, sq, ok => by
    by_cases hT : ks (isF (form b a)) r = [] ∧ form b a ≠ .live
    · have e : ks b (a :: r) = [] := by rw [ks_cons, if_pos hT]
      rw [gF_nolive _ _ _ _ _ (ks_nolive (a :: r) b e), e]
      exact (gF_nil found sh sq _).symm
    · have e : ks b (a :: r) = leastM (form b a) a :: ks (isF (form b a)) r := by rw [ks_cons, if_neg hT]
      have hc := (ks_st (a :: r) b ok).2.1
      rw [e] at hc ⊢
      have e1 : fr b (leastM (form b a) a :: ks (isF (form b a)) r) = form b a :: fr (isF (form b a)) (ks (isF (form b a)) r) := by
        show form b (leastM (form b a) a) :: fr (isF (form b (leastM (form b a) a))) _ = _
        rw [form_least]
      have e2 : cl (leastM (form b a) a :: ks (isF (form b a)) r) = cnt (st (a :: r)) :: cl (ks (isF (form b a)) r) := by
        rw [hc]
        rfl
      rw [e1, e2]
      show gF found sh sq (form b a :: fr (isF (form b a)) r) (cnt (st (a :: r)) :: cl r) = _
      rw [gF_step, gF_step]
      split
      · exact gF_ks r _ _ _ _ ok.tail
      · exact gF_ks r _ _ _ _ ok.tail
theorem Ok.ks {v : List Int} {b : Bool} : Ok false (ks b v) := ⟨fun _ => rfl, ks_lastPos v b⟩
theorem gens_kind : ∀ {w : List Int}, Valid w → gensM (kindM w) = gensM w
  | [], _ => rfl
  | a :: r, hv => by
    have ok := hv.ok
    obtain ⟨s1, s2, _⟩ := ks_st r false ok
    rw [kindM_cons]
    by_cases hT : KM.ks false r = []
    · rw [if_pos hT, gens_nil, gens_cons ok, gF_nolive _ _ _ _ _ (ks_nolive r false hT)]
      rw [hT] at s1
      congr 1
      by_cases hr : r = []
      · subst hr
        show 1 = cnt (stepO (some 1, none) a)
        unfold stepO
        split
        · rfl
        · split <;> rfl
      · obtain ⟨o, q, e, h1, h2⟩ := st_pos r hr ok.2
        rw [e] at s1
        have e1 : o = 1 := Option.some.inj (show some o = some (1 : Int) from s1)
        subst e1
        show 1 = cnt (stepO (st r) a)
        rw [e]
        by_cases ha : a = -1
        · unfold stepO
          rw [if_pos ha]
          show 1 = if (1 : Int) < 1 + q then 1 else 1 + q
          rw [if_pos (by omega)]
        · exact (cnt_free h2 ha).2.symm
    · rw [if_neg hT, gens_cons Ok.ks, gens_cons ok, gF_ks r false _ _ _ ok]
      have hr : r ≠ [] := fun z => hT (by rw [z]; rfl)
      obtain ⟨o, q, e, h1, h2⟩ := st_pos r hr ok.2
      obtain ⟨o', q', e', h1', h2'⟩ := st_pos _ hT (ks_lastPos r _)
      have eo : o = o' := by
        rw [e, e'] at s1
        exact Option.some.inj s1
      subst eo
      have c1 : cnt (st (a :: r)) = o := by
        show cnt (stepO (st r) a) = o
        rw [e]
        by_cases ha : a = -1
        · unfold stepO
          rw [if_pos ha]
          show (if o < o + q then o else o + q) = o
          rw [if_pos (by omega)]
        · exact (cnt_free h2 ha).2
      have c2 : cnt (st (-1 :: KM.ks false r)) = o := by
        show cnt (stepO (st (KM.ks false r)) (-1)) = o
        rw [e']
        unfold stepO
        rw [if_pos rfl]
        show (if o < o + q' then o else o + q') = o
        rw [if_pos (by omega)]
      rw [c1, c2]
/-! ### a kind is its own kind -/
theorem ks_ks : ∀ (v : List Int) (b : Bool), ks b (ks b v) = ks b v
  | [], _ => rfl
  | a :: r, b => by
    by_cases hT : ks (isF (form b a)) r = [] ∧ form b a ≠ .live
    · have e : ks b (a :: r) = [] := by rw [ks_cons, if_pos hT]
      rw [e]
      rfl
    · have e : ks b (a :: r) = leastM (form b a) a :: ks (isF (form b a)) r := by rw [ks_cons, if_neg hT]
      rw [e, ks_cons, form_least, ks_ks r, if_neg hT]
      congr 1
      cases h : form b a <;> rfl
theorem kind_kind (w : List Int) : kindM (kindM w) = kindM w := by
  cases w with
  | nil => rfl
  | cons a r =>
    rw [kindM_cons]
    by_cases hT : ks false r = []
    · rw [if_pos hT]
      rfl
    · rw [if_neg hT, kindM_cons, ks_ks, if_neg hT]
theorem lastPos_last : ∀ (u : List Int), u ≠ [] → lastPos u → ∃ t l, u = t ++ [l] ∧ 0 < l
  | [], h, _ => absurd rfl h
  | [a], _, h => ⟨[], a, rfl, h⟩
  | a :: b :: r, _, h => by
    obtain ⟨t, l, e, hl⟩ := lastPos_last (b :: r) (by simp) h
    exact ⟨a :: t, l, by rw [e]; rfl, hl⟩
theorem kind_shape (w : List Int) : kindM w = [] ∨ ∃ T, T ≠ [] ∧ kindM w = -1 :: T ∧ ks false T = T ∧ lastPos T := by
  cases w with
  | nil => exact .inl rfl
  | cons a r =>
    rw [kindM_cons]
    by_cases hT : ks false r = []
    · exact .inl (by rw [if_pos hT])
    · exact .inr ⟨ks false r, hT, by rw [if_neg hT], ks_ks r false, ks_lastPos r false⟩
theorem kind_valid (w : List Int) : Valid (kindM w) := by
  rcases kind_shape w with h | ⟨T, h1, h2, _, h3⟩
  · exact .inl h
  · obtain ⟨t, l, e, hl⟩ := lastPos_last T h1 h3
    refine .inr (.inr ⟨l, (-1 :: t).reverse, ?_, hl⟩)
    rw [h2, e]
    simp
/-! ### the letters of a kind -/
theorem ks_letters : ∀ (v : List Int) (b : Bool), ∀ x ∈ ks b v, x = -1 ∨ x = 0 ∨ x = 1
  | [], _, x, h => nomatch h
  | a :: r, b, x, h => by
    rw [ks_cons] at h
    split at h
    · cases h
    · rcases List.mem_cons.mp h with rfl | h
      · cases hf : form b a with
        | fixed =>
          rcases form_fixed hf with h | ⟨_, h⟩
          · exact .inl h
          · exact .inr (.inl h)
        | live => exact .inr (.inr rfl)
        | free => exact .inr (.inl rfl)
        | first => exact .inl rfl
      · exact ks_letters r _ x h
theorem kind_letters (w : List Int) : ∀ x ∈ kindM w, x = -1 ∨ x = 0 ∨ x = 1 := by
  cases w with
  | nil => exact fun x h => nomatch h
  | cons a r =>
    rw [kindM_cons]
    split
    · exact fun x h => nomatch h
    · intro x h
      rcases List.mem_cons.mp h with rfl | h
      · exact .inl rfl
      · exact ks_letters r _ x h
/-! ### the kind stands ahead -/
def lx : List Int → List Int → Bool
  | [], [] => false
  | [], _ :: _ => true
  | _ :: _, [] => false
  | x :: xs, y :: ys => if x = y then lx xs ys else decide (x < y)
theorem lx_nil (v : List Int) : lx v [] = false := by cases v <;> rfl
theorem lx_ks : ∀ (v : List Int) (b : Bool), (∀ a ∈ v, -1 ≤ a) → lx v (ks b v) = false
  | [], _, _ => rfl
  | a :: r, b, h => by
    rw [ks_cons]
    split
    · rfl
    · have ih := lx_ks r (isF (form b a)) fun x hx => h x (List.mem_cons_of_mem _ hx)
      have ha := h a (List.mem_cons_self ..)
      show (if a = leastM (form b a) a then lx r _ else decide (a < leastM (form b a) a)) = false
      split
      · exact ih
      · refine decide_eq_false ?_
        cases hf : form b a with
        | fixed => exact Int.lt_irrefl _
        | live =>
          obtain ⟨_, h1, h0⟩ := form_live hf
          show ¬ a < 1
          omega
        | free =>
          obtain ⟨_, h1⟩ := form_free hf
          show ¬ a < 0
          omega
        | first => exact absurd hf form_not_first
theorem lx_kind (w : List Int) (h : ∀ a ∈ w, -1 ≤ a) : lx w (kindM w) = false := by
  cases w with
  | nil => rfl
  | cons a r =>
    rw [kindM_cons]
    split
    · rfl
    · have ih := lx_ks r false fun x hx => h x (List.mem_cons_of_mem _ hx)
      have ha := h a (List.mem_cons_self ..)
      show (if a = -1 then lx r _ else decide (a < -1)) = false
      split
      · exact ih
      · exact decide_eq_false (by omega)
end KM
set_option linter.all false
set_option maxRecDepth 100000
namespace KM
/-! ### generators read back -/
def en : Bool → Nat → List (List Int)
  | _, 0 => [[]]
  | false, n + 1 => [] :: (((en true n).filter fun t => !t.isEmpty).map (fun t => -1 :: t) ++ ((en false n).filter fun t => !t.isEmpty).map fun t => 0 :: t)
  | true, n + 1 => [] :: (((en true n).filter fun t => !t.isEmpty).map (fun t => -1 :: t) ++ (((en true n).filter fun t => !t.isEmpty).map (fun t => 0 :: t) ++ (en false n).map fun t => 1 :: t))
theorem en_nil (b : Bool) (n : Nat) : [] ∈ en b n := by
  cases n with
  | zero => exact List.mem_singleton.mpr rfl
  | succ n => cases b <;> exact List.mem_cons_self ..
theorem ks_en : ∀ (n : Nat) (v : List Int) (b : Bool), v.length ≤ n → ks b v ∈ en b n
  | n, [], b, _ => en_nil b n
  | 0, a :: r, b, h => by simp at h
  | n + 1, a :: r, b, h => by
    have ih := ks_en n r (isF (form b a)) (by simpa using h)
    rw [ks_cons]
    split
    · exact en_nil b _
    · rename_i hT
      have hne : form b a ≠ .live → (!(ks (isF (form b a)) r).isEmpty) = true := fun hl => by
        cases e : ks (isF (form b a)) r with
        | nil => exact absurd ⟨e, hl⟩ hT
        | cons c t => rfl
      cases hf : form b a with
      | fixed =>
        rw [hf] at ih hne
        have hne := hne fun z => nomatch z
        rcases form_fixed hf with rfl | ⟨rfl, rfl⟩
        · have hm : (-1 :: ks (isF .fixed) r) ∈ (((en true n).filter fun t => !t.isEmpty).map (fun t => -1 :: t)) := List.mem_map.mpr ⟨_, List.mem_filter.mpr ⟨ih, hne⟩, rfl⟩
          cases b
          · exact List.mem_cons_of_mem _ (List.mem_append_left _ hm)
          · exact List.mem_cons_of_mem _ (List.mem_append_left _ hm)
        · exact List.mem_cons_of_mem _ (List.mem_append_right _ (List.mem_append_left _ (List.mem_map.mpr ⟨_, List.mem_filter.mpr ⟨ih, hne⟩, rfl⟩)))
      | live =>
        rw [hf] at ih
        obtain ⟨rfl, _, _⟩ := form_live hf
        exact List.mem_cons_of_mem _ (List.mem_append_right _ (List.mem_append_right _ (List.mem_map.mpr ⟨_, ih, rfl⟩)))
      | free =>
        rw [hf] at ih hne
        have hne := hne fun z => nomatch z
        obtain ⟨rfl, _⟩ := form_free hf
        exact List.mem_cons_of_mem _ (List.mem_append_right _ (List.mem_map.mpr ⟨_, List.mem_filter.mpr ⟨ih, hne⟩, rfl⟩))
      | first => exact absurd hf form_not_first
/-- the sides of the squares that fill a rectangle -/
def sides : Nat → Nat → Nat → List Nat
  | 0, _, _ => []
  | k + 1, d, e => if e = 0 then [] else List.replicate (d / e) e ++ sides k e (d % e)
def letters : Nat → List Nat → List Int
  | _, [] => []
  | _, [_] => [1]
  | p, s :: t :: r => (if s = p then 0 else -1) :: letters s (t :: r)
def decGo (ep e b : Nat) : List Nat → List Int
  | [] => []
  | b' :: r => letters e (sides 12 (b' - ep / e * b) e) ++ decGo e ((sides 12 (b' - ep / e * b) e).getLastD e) b' r
def dec (g : List Int) : List Int := match g.map Int.toNat with
  | b0 :: b1 :: r => (letters b0 (sides 12 b1 b0)).tail ++ decGo b0 ((sides 12 b1 b0).getLastD b0) b1 r
  | _ => []
def gensK (T : List Int) : List Int := match T with
  | [] => [1]
  | t => gF [cnt (st (-1 :: t))] (cnt (st (-1 :: t))) (cnt (st (-1 :: t)) * cnt (st (-1 :: t))) (fr false t) (cl t)
theorem dec_all : ((en false 8).all fun T => dec (gensK T) == T) = true := by decide +kernel
end KM
set_option linter.all false
set_option maxRecDepth 100000
namespace KM
/-! ### the generators tell the kind -/
def tailK : List Int → List Int
  | [] => []
  | _ :: r => ks false r
theorem kindM_tailK (w : List Int) : kindM w = if tailK w = [] then [] else -1 :: tailK w := by
  cases w with
  | nil => rfl
  | cons a r => exact kindM_cons a r
theorem gens_tailK {w : List Int} (hv : Valid w) : gensM w = gensK (tailK w) := by
  rw [← gens_kind hv, kindM_tailK]
  have hl : lastPos (tailK w) := by
    cases w with
    | nil => trivial
    | cons a r => exact ks_lastPos r false
  cases e : tailK w with
  | nil => exact gens_nil
  | cons c t =>
    rw [if_neg (by simp)]
    rw [e] at hl
    rw [gens_cons ⟨fun _ => rfl, hl⟩]
    rfl
theorem tailK_en {w : List Int} (h : w.length ≤ 9) : tailK w ∈ en false 8 := by
  cases w with
  | nil => exact en_nil _ _
  | cons a r => exact ks_en 8 r false (by simpa using h)
theorem gens_inj {u v : List Int} (hu : Valid u) (hv : Valid v) (lu : u.length ≤ 9) (lv : v.length ≤ 9) (h : gensM u = gensM v) : kindM u = kindM v := by
  rw [gens_tailK hu, gens_tailK hv] at h
  have h1 := List.all_eq_true.mp dec_all _ (tailK_en lu)
  have h2 := List.all_eq_true.mp dec_all _ (tailK_en lv)
  have e1 := eq_of_beq h1
  have e2 := eq_of_beq h2
  rw [h] at e1
  have e : tailK u = tailK v := e1.symm.trans e2
  rw [kindM_tailK, kindM_tailK, e]
/-! ### the size of the kind -/
theorem last_filter (p : Nat → Bool) : ∀ n, match ((List.range n).filter p).getLast? with | none => ∀ m, m < n → p m = false | some c => c < n ∧ p c = true ∧ ∀ m, c < m → m < n → p m = false
  | 0 => fun m h => absurd h (Nat.not_lt_zero _)
  | n + 1 => by
    have ih := last_filter p n
    rw [List.range_succ, List.filter_append]
    cases hp : p n with
    | true =>
      have e : [n].filter p = [n] := by rw [List.filter_cons, if_pos hp, List.filter_nil]
      rw [e, List.getLast?_concat]
      exact ⟨by omega, hp, fun m h1 h2 => by omega⟩
    | false =>
      have e : [n].filter p = [] := by rw [List.filter_cons, if_neg (by rw [hp]; decide), List.filter_nil]
      rw [e, List.append_nil]
      cases hg : ((List.range n).filter p).getLast? with
      | none =>
        rw [hg] at ih
        intro m hm
        by_cases hmn : m = n
        · rw [hmn, hp]
        · exact ih m (by omega)
      | some c =>
        rw [hg] at ih
        obtain ⟨h1, h2, h3⟩ := ih
        refine ⟨by omega, h2, fun m hm hmn => ?_⟩
        by_cases hmn' : m = n
        · rw [hmn', hp]
        · exact h3 m hm (by omega)
theorem cF_first (fs : List Fm) (j : Nat) : cF (.first :: fs) (j + 2) = decide (fs[j]? = some .fixed) := by
  show decide ((Fm.first :: fs)[j + 1]? = some .fixed) = _
  rw [List.getElem?_cons_succ]
theorem cF_cfl (r : List Int) (j : Nat) : cF (.first :: fr false r) (j + 1) = cfl false r j := by
  cases j with
  | zero =>
    rw [cfl0]
    rfl
  | succ j => rw [cF_first, ← cfl_fr]
theorem fr_live : ∀ (v : List Int) (b : Bool) (m : Nat), (fr b v)[m]? = some .live ↔ (cfl b v m = true ∧ cfl b v (m + 1) = false ∧ m < v.length)
  | [], b, m => by
    constructor
    · intro h
      cases h
    · rintro ⟨_, _, h⟩
      cases h
  | a :: r, b, 0 => by
    have h1 : cfl b (a :: r) 0 = b := rfl
    have h2 : cfl b (a :: r) (0 + 1) = isF (form b a) := cfl0 _ _
    rw [h1, h2]
    have hl := live_flag b a
    constructor
    · intro h
      have e : form b a = .live := Option.some.inj h
      rw [decide_eq_true e] at hl
      have := hl.symm
      rw [Bool.and_eq_true, Bool.not_eq_true'] at this
      exact ⟨this.1, this.2, Nat.zero_lt_succ _⟩
    · rintro ⟨h1, h2, _⟩
      have e : form b a = .live := by
        rw [h2, h1] at hl
        rw [h1]
        exact of_decide_eq_true hl
      show some (form b a) = _
      rw [e]
  | a :: r, b, m + 1 => by
    have ih := fr_live r (isF (form b a)) m
    show (form b a :: fr (isF (form b a)) r)[m + 1]? = _ ↔ (cfl (isF (form b a)) r m = true ∧ cfl (isF (form b a)) r (m + 1) = false ∧ m + 1 < r.length + 1)
    rw [List.getElem?_cons_succ, ih]
    exact ⟨fun ⟨x, y, z⟩ => ⟨x, y, by omega⟩, fun ⟨x, y, z⟩ => ⟨x, y, by omega⟩⟩
theorem live_iff (w : List Int) (n : Nat) : (formsM w)[n]? = some .live ↔ (cF (formsM w) n = true ∧ cF (formsM w) (n + 1) = false ∧ n < w.length) := by
  cases w with
  | nil =>
    constructor
    · intro h
      cases h
    · rintro ⟨_, _, h⟩
      cases h
  | cons a r =>
    rw [formsM_cons]
    cases n with
    | zero =>
      constructor
      · intro h
        cases h
      · rintro ⟨h, _⟩
        cases h
    | succ n =>
      rw [List.getElem?_cons_succ, cF_cfl, cF_cfl, fr_live]
      show _ ↔ (_ ∧ _ ∧ n + 1 < r.length + 1)
      exact ⟨fun ⟨x, y, z⟩ => ⟨x, y, by omega⟩, fun ⟨x, y, z⟩ => ⟨x, y, by omega⟩⟩
theorem stepF_pos {p : Option Fm} {l : Int} (h : 0 < l) : stepF p l ≠ .fixed := by
  unfold stepF
  cases p with
  | none => exact fun z => nomatch z
  | some f =>
    show (if l = -1 then Fm.fixed else if f = .fixed then (if l = 0 then .fixed else .live) else .free) ≠ .fixed
    rw [if_neg (by omega)]
    split
    · rw [if_neg (by omega)]
      exact fun z => nomatch z
    · exact fun z => nomatch z
theorem end_not {w : List Int} (hv : Valid w) : cF (formsM w) w.length = false := by
  rcases hv with rfl | rfl | ⟨l, t, e, hl⟩
  · rfl
  · rfl
  · have e2 : w = t.reverse ++ [l] := by
      have := congrArg List.reverse e
      simpa using this
    subst e2
    rw [List.length_append]
    show decide ((formsM (t.reverse ++ [l]))[t.reverse.length]? = some .fixed) = false
    rw [formsM_snoc, List.getElem?_append_right (by rw [formsM_len]; exact Nat.le_refl _), formsM_len, Nat.sub_self]
    refine decide_eq_false fun z => ?_
    exact stepF_pos hl (Option.some.inj z)
theorem sizeM_zero (fs : List Fm) : ∀ n, (∀ m, m < n → fs[m]? ≠ some .live) → sizeM fs n = 0
  | 0, _ => rfl
  | n + 1, h => by
    unfold sizeM
    rw [if_neg (h n (by omega))]
    exact sizeM_zero fs n fun m hm => h m (by omega)
theorem sizeM_last (fs : List Fm) {c : Nat} (hc : fs[c]? = some .live) : ∀ n, c < n → (∀ m, c < m → m < n → fs[m]? ≠ some .live) → sizeM fs n = c + 1
  | 0, h, _ => absurd h (Nat.not_lt_zero _)
  | n + 1, h, hm => by
    unfold sizeM
    by_cases e : c = n
    · subst e
      rw [if_pos hc]
    · rw [if_neg (hm n (by omega) (by omega))]
      exact sizeM_last fs hc n (by omega) fun m h1 h2 => hm m h1 (by omega)
/-- the last corner of a word, and the kind's size -/
theorem kd_last {w : List Int} (hv : Valid w) : (corners w = [] ∧ kdSize w = 0 ∧ kindM w = []) ∨
    ∃ c : Nat, kdSize w = (c : Int) + 1 ∧ (kindM w).length = c + 1 ∧ c < w.length ∧ 1 ≤ c ∧ (corners w).contains (c : Int) = true ∧ (corners w).contains ((c : Int) + 1) = false ∧ corners w ≠ [] := by
  have lf := last_filter (isCorner w) (w.length + 1)
  have hg : (corners w).getLast? = (((List.range (w.length + 1)).filter (isCorner w)).getLast?).map fun h : Nat => (h : Int) := by
    unfold corners
    rw [List.getLast?_map]
  cases h : ((List.range (w.length + 1)).filter (isCorner w)).getLast? with
  | none =>
    rw [h] at lf hg
    have hnil : corners w = [] := List.getLast?_eq_none_iff.mp hg
    have hk : kdSize w = 0 := by
      unfold kdSize
      rw [hg]
      rfl
    have hs : sizeM (formsM w) w.length = 0 := sizeM_zero _ _ fun m hm hl => by
      have := ((live_iff w m).mp hl).1
      rw [← isCorner_cF w (by omega), lf m (by omega)] at this
      cases this
    refine .inl ⟨hnil, hk, List.eq_nil_of_length_eq_zero (by rw [kindM_len, hs])⟩
  | some c =>
    rw [h] at lf hg
    obtain ⟨h1, h2, h3⟩ := lf
    have hc : cF (formsM w) c = true := by
      rw [← isCorner_cF w (by omega)]
      exact h2
    have hcl : c < w.length := by
      rcases Nat.lt_or_ge c w.length with z | z
      · exact z
      · have e : c = w.length := by omega
        rw [e, end_not hv] at hc
        cases hc
    have hc1 : cF (formsM w) (c + 1) = false := by
      rw [← isCorner_cF w (by omega)]
      exact h3 (c + 1) (by omega) (by omega)
    have hlive : (formsM w)[c]? = some .live := (live_iff w c).mpr ⟨hc, hc1, hcl⟩
    have hs : sizeM (formsM w) w.length = c + 1 := sizeM_last _ hlive _ hcl fun m hm1 hm2 hl => by
      have := ((live_iff w m).mp hl).1
      rw [← isCorner_cF w (by omega), h3 m hm1 (by omega)] at this
      cases this
    refine .inr ⟨c, ?_, by rw [kindM_len, hs], hcl, ?_, ?_, ?_, ?_⟩
    · unfold kdSize
      rw [hg]
      rfl
    · cases c with
      | zero => cases hc
      | succ c => omega
    · rw [mem_corners]
      exact hc
    · have := mem_corners w (c + 1)
      rw [hc1] at this
      rw [← this]
      congr 1
    · intro z
      rw [z] at hg
      cases hg
theorem kd_len {w : List Int} (hv : Valid w) : ((kindM w).length : Int) = kdSize w := by
  rcases kd_last hv with ⟨_, h1, h2⟩ | ⟨c, h1, h2, _⟩
  · rw [h1, h2]
    rfl
  · rw [h1, h2]
    rfl
/-! ### kin -/
/-- the letter a may stand at i -/
def KL (b : Bool) (v : List Int) (i : Nat) (a : Int) : Prop :=
  match (fr b v)[i]? with
  | some .fixed => v[i]? = some a
  | some .live => 1 ≤ a
  | _ => 0 ≤ a
theorem form_kl {b : Bool} {a g : Int} {r : List Int} (h : KL b (a :: r) 0 g) : form b g = form b a ∧ leastM (form b a) g = leastM (form b a) a := by
  unfold KL at h
  rw [show (fr b (a :: r))[0]? = some (form b a) from rfl] at h
  cases hf : form b a with
  | fixed =>
    rw [hf] at h
    have e : a = g := Option.some.inj h
    subst e
    exact ⟨hf, rfl⟩
  | live =>
    rw [hf] at h
    have h' : 1 ≤ g := h
    obtain ⟨rfl, _, _⟩ := form_live hf
    refine ⟨?_, rfl⟩
    unfold form
    rw [if_neg (by omega), if_pos rfl, if_neg (by omega)]
  | free =>
    rw [hf] at h
    have h' : 0 ≤ g := h
    obtain ⟨rfl, _⟩ := form_free hf
    refine ⟨?_, rfl⟩
    unfold form
    rw [if_neg (by omega)]
    rfl
  | first => exact absurd hf form_not_first
theorem ks_plain : ∀ tl : List Int, (∀ x ∈ tl, 0 ≤ x) → ks false tl = []
  | [], _ => rfl
  | a :: r, h => by
    have ha := h a (List.mem_cons_self ..)
    have hf : form false a = .free := by
      unfold form
      rw [if_neg (by omega)]
      rfl
    rw [ks_cons, hf]
    rw [if_pos ⟨ks_plain r fun x hx => h x (List.mem_cons_of_mem _ hx), fun z => nomatch z⟩]
theorem kin_ks : ∀ (v : List Int) (b : Bool) (g tl : List Int), (∀ x ∈ tl, 0 ≤ x) → g.length = (ks b v).length → (∀ i a, g[i]? = some a → KL b v i a) → (ks b v = [] → b = false) → ks b (g ++ tl) = ks b v
  | [], b, g, tl, ht, hl, hk, hb => by
    have eg : g = [] := List.eq_nil_of_length_eq_zero hl
    subst eg
    have e := hb rfl
    subst e
    exact ks_plain tl ht
  | a :: r, b, g, tl, ht, hl, hk, hb => by
    by_cases hT : ks (isF (form b a)) r = [] ∧ form b a ≠ .live
    · have e : ks b (a :: r) = [] := by rw [ks_cons, if_pos hT]
      rw [e] at hl
      have eg : g = [] := List.eq_nil_of_length_eq_zero hl
      subst eg
      have e2 := hb e
      subst e2
      rw [e]
      exact ks_plain tl ht
    · have e : ks b (a :: r) = leastM (form b a) a :: ks (isF (form b a)) r := by rw [ks_cons, if_neg hT]
      rw [e] at hl ⊢
      cases g with
      | nil => cases hl
      | cons g0 g' =>
        obtain ⟨e1, e2⟩ := form_kl (hk 0 g0 rfl)
        have ih := kin_ks r (isF (form b a)) g' tl ht (by simpa using hl) (fun i x hx => hk (i + 1) x hx) (fun z => by
          have hlive : form b a = .live := Decidable.not_not.mp fun y => hT ⟨z, y⟩
          rw [hlive]
          rfl)
        rw [List.cons_append, ks_cons, e1, ih, if_neg hT, e2]
theorem kl_ks : ∀ (v : List Int) (b : Bool) (i : Nat) (a : Int), (ks b v)[i]? = some a → KL b v i a
  | [], b, i, a, h => by cases h
  | x :: r, b, i, a, h => by
    by_cases hT : ks (isF (form b x)) r = [] ∧ form b x ≠ .live
    · rw [ks_cons, if_pos hT] at h
      cases h
    · rw [ks_cons, if_neg hT] at h
      cases i with
      | zero =>
        have e : leastM (form b x) x = a := Option.some.inj h
        unfold KL
        rw [show (fr b (x :: r))[0]? = some (form b x) from rfl]
        cases hf : form b x with
        | fixed => rw [hf] at e; exact congrArg some e
        | live => rw [hf] at e; rw [← e]; exact Int.le_refl _
        | free => rw [hf] at e; rw [← e]; exact Int.le_refl _
        | first => exact absurd hf form_not_first
      | succ i => exact kl_ks r _ i a h
theorem ks_tail (r : List Int) {tl : List Int} (ht : ∀ x ∈ tl, 0 ≤ x) : ks false (ks false r ++ tl) = ks false r := kin_ks r false _ tl ht rfl (fun i a h => kl_ks r false i a h) fun _ => rfl
theorem kind_tail (w : List Int) {tl : List Int} (ht : ∀ x ∈ tl, 0 ≤ x) (hne : kindM w ≠ []) : kindM (kindM w ++ tl) = kindM w := by
  cases w with
  | nil => exact absurd rfl hne
  | cons a r =>
    rw [kindM_cons] at hne ⊢
    split
    · rename_i h
      rw [if_pos h] at hne
      exact absurd rfl hne
    · rename_i h
      rw [List.cons_append, kindM_cons, ks_tail r ht, if_neg h]
end KM
set_option linter.all false
set_option maxRecDepth 100000
namespace KM
theorem Valid.snoc (t : List Int) {l : Int} (h : 0 < l) : Valid (t ++ [l]) := .inr (.inr ⟨l, t.reverse, by simp, h⟩)
theorem Valid.cases {w : List Int} (h : Valid w) : w = [] ∨ w = [-1] ∨ ∃ t l, w = t ++ [l] ∧ 0 < l := by
  rcases h with h | h | ⟨l, r, e, h⟩
  · exact .inl h
  · exact .inr (.inl h)
  · refine .inr (.inr ⟨r.reverse, l, ?_, h⟩)
    have := congrArg List.reverse e
    simpa using this
theorem getLastD_snoc (t : List Int) (l d : Int) : (t ++ [l]).getLastD d = l := by simp
theorem wdPoint_mk {p : Int} {w : List Int} (hl : w.length ≤ 60) (hx : ∀ a ∈ w, -1 ≤ a ∧ a < p) : wdPoint p w = true := by
  unfold wdPoint
  rw [decide_eq_true hl, Bool.true_and, List.all_eq_true]
  intro a ha
  rw [decide_eq_true (hx a ha).1, decide_eq_true (hx a ha).2]
  rfl
theorem wdPoint_mem {p : Int} {w : List Int} (h : wdPoint p w = true) : w.length ≤ 60 ∧ ∀ a ∈ w, -1 ≤ a ∧ a < p := by
  unfold wdPoint at h
  rw [Bool.and_eq_true, List.all_eq_true] at h
  refine ⟨of_decide_eq_true h.1, fun a ha => ?_⟩
  have := h.2 a ha
  rw [Bool.and_eq_true] at this
  exact ⟨of_decide_eq_true this.1, of_decide_eq_true this.2⟩
theorem wdWord_mk {p : Int} {w : List Int} (hl : w.length ≤ 60) (hx : ∀ a ∈ w, -1 ≤ a ∧ a < p) (hv : Valid w) : wdWord p w = true := by
  unfold wdWord
  rw [wdPoint_mk hl hx, Bool.true_and]
  rcases hv.cases with rfl | rfl | ⟨t, l, rfl, h⟩
  · rfl
  · rfl
  · rw [getLastD_snoc, decide_eq_true h, Bool.or_true]
theorem wdWord_valid {p : Int} {w : List Int} (h : wdWord p w = true) : Valid w ∧ w.length ≤ 60 ∧ ∀ a ∈ w, -1 ≤ a ∧ a < p := by
  unfold wdWord at h
  rw [Bool.and_eq_true, Bool.or_eq_true] at h
  obtain ⟨h1, h2⟩ := wdPoint_mem h.1
  refine ⟨?_, h1, h2⟩
  rcases h.2 with h | h
  · have hm := List.contains_iff_mem.mp h
    rcases List.mem_cons.mp hm with h | h
    · exact .inl h
    · exact .inr (.inl (List.mem_singleton.mp h))
  · have h' := of_decide_eq_true h
    rcases List.eq_nil_or_concat w with rfl | ⟨t, l, e⟩
    · exact .inl rfl
    · rw [List.concat_eq_append] at e
      subst e
      rw [getLastD_snoc] at h'
      exact Valid.snoc t h'
/-! ### a lowered kind -/
theorem lx_less : ∀ (u : List Int) (x : Int) (t t' : List Int), lx (u ++ [x - 1] ++ t) (u ++ [x] ++ t') = true
  | [], x, t, t' => by
    show (if x - 1 = x then lx t t' else decide (x - 1 < x)) = true
    rw [if_neg (by omega)]
    exact decide_eq_true (by omega)
  | a :: u, x, t, t' => by
    show (if a = a then lx (u ++ [x - 1] ++ t) (u ++ [x] ++ t') else decide (a < a)) = true
    rw [if_pos rfl]
    exact lx_less u x t t'
theorem less_not {w : List Int} (hl : w.length ≤ 9) {i : Nat} {x : Int} (hx : (kindM w)[i]? = some x) : ¬ (wdWord 2 ((kindM w).take i ++ [x - 1] ++ (kindM w).drop (i + 1)) = true ∧ gensM ((kindM w).take i ++ [x - 1] ++ (kindM w).drop (i + 1)) = gensM (kindM w)) := by
  rintro ⟨h1, h2⟩
  obtain ⟨hv, _, hlet⟩ := wdWord_valid h1
  have hkl := kindM_le w
  have hi := (List.getElem?_eq_some_iff.mp hx).1
  have hlen : ((kindM w).take i ++ [x - 1] ++ (kindM w).drop (i + 1)).length = (kindM w).length := by
    rw [List.length_append, List.length_append, List.length_take, List.length_drop]
    simp only [List.length_cons, List.length_nil]
    omega
  have hk := gens_inj hv (kind_valid w) (by omega) (by omega) h2
  rw [kind_kind] at hk
  have h3 := lx_kind _ fun a ha => (hlet a ha).1
  rw [hk] at h3
  have e : kindM w = (kindM w).take i ++ [x] ++ (kindM w).drop (i + 1) := by
    rw [List.append_assoc, List.singleton_append, ← (List.getElem?_eq_some_iff.mp hx).2, List.getElem_cons_drop, List.take_append_drop]
  have h4 := lx_less ((kindM w).take i) x ((kindM w).drop (i + 1)) ((kindM w).drop (i + 1))
  rw [← e] at h4
  rw [h3] at h4
  cases h4
/-! ### kin -/
theorem fr_fixed : ∀ (v : List Int) (b : Bool) (j : Nat) (a : Int), (fr b v)[j]? = some .fixed → v[j]? = some a → a = -1 ∨ a = 0
  | [], b, j, a, h, _ => by cases h
  | x :: r, b, 0, a, h, h2 => by
    have e : form b x = .fixed := Option.some.inj h
    have e2 : x = a := Option.some.inj h2
    subst e2
    rcases form_fixed e with h | ⟨_, h⟩
    · exact .inl h
    · exact .inr h
  | x :: r, b, j + 1, a, h, h2 => fr_fixed r _ j a h h2
theorem kin_ok {p : Int} {w kin : List Int} (hp : 2 ≤ p) (hv : Valid w) (hl : w.length ≤ 50) (hk : KinOf p w kin) : kindM kin = kindM w ∧ wdWord p kin = true ∧ kin.length ≤ 60 := by
  have hkd := kd_last hv
  rcases hk with ⟨hc, l, rfl, hl4, hx⟩ | ⟨hc, f, m, rfl, hfl, hm3, hmx, hfx⟩
  · have hkn : kindM w = [] := by
      rcases hkd with ⟨_, _, h⟩ | ⟨c, _, _, _, _, _, _, h⟩
      · exact h
      · exact absurd hc h
    refine ⟨?_, wdWord_mk (by simp; omega) (fun a ha => ?_) (Valid.snoc l (by decide)), by simp; omega⟩
    · rw [hkn]
      cases l with
      | nil => decide
      | cons a l =>
        rw [List.cons_append, kindM_cons, if_pos]
        refine ks_plain _ fun x hxm => ?_
        rcases List.mem_append.mp hxm with h | h
        · exact (hx x (List.mem_cons_of_mem _ h)).1
        · rw [List.mem_singleton.mp h]
          decide
    · rcases List.mem_append.mp ha with h | h
      · have := hx a h
        omega
      · rw [List.mem_singleton.mp h]
        omega
  · obtain ⟨c, hs, hkl, hcl, hc1, hcc, hcn, _⟩ : ∃ c : Nat, kdSize w = (c : Int) + 1 ∧ (kindM w).length = c + 1 ∧ c < w.length ∧ 1 ≤ c ∧ (corners w).contains (c : Int) = true ∧ (corners w).contains ((c : Int) + 1) = false ∧ corners w ≠ [] := by
      rcases hkd with ⟨h, _⟩ | h
      · exact absurd h hc
      · exact h
    have hfl' : f.length = c + 1 := by omega
    have htl : ∀ x ∈ m ++ (if m = [] then [] else [1]), 0 ≤ x := fun x hx => by
      rcases List.mem_append.mp hx with h | h
      · exact (hmx x h).1
      · split at h
        · cases h
        · rw [List.mem_singleton.mp h]
          decide
    obtain ⟨x0, r, rfl⟩ : ∃ x0 r, w = x0 :: r := by
      cases w with
      | nil => simp at hcl
      | cons x0 r => exact ⟨x0, r, rfl⟩
    obtain ⟨f0, g, rfl⟩ : ∃ f0 g, f = f0 :: g := by
      cases f with
      | nil => simp at hfl'
      | cons f0 g => exact ⟨f0, g, rfl⟩
    have hk1 := kindM_cons x0 r
    have hTne : ks false r ≠ [] := fun z => by
      rw [hk1, if_pos z] at hkl
      simp at hkl
    rw [if_neg hTne] at hk1
    have hgl : g.length = (ks false r).length := by
      rw [hk1] at hkl
      simp at hkl hfl'
      omega
    have hkl2 : ∀ i a, g[i]? = some a → KL false r i a := fun i a hi => by
      have hF := hfx (i + 1) a hi
      unfold FL at hF
      rw [if_neg (by omega)] at hF
      have m1 : (corners (x0 :: r)).contains (((i + 1 : Nat) : Int) + 1) = decide ((fr false r)[i]? = some .fixed) := by
        have := mem_corners (x0 :: r) (i + 2)
        rw [formsM_cons, cF_first] at this
        rw [← this]
        congr 1
      have m2 : (corners (x0 :: r)).contains ((i + 1 : Nat) : Int) = cfl false r i := by
        rw [mem_corners, formsM_cons, cF_cfl]
      rw [m1, m2] at hF
      unfold KL
      cases hfi : (fr false r)[i]? with
      | none =>
        rw [hfi, decide_eq_false (by simp), if_neg (by decide)] at hF
        show 0 ≤ a
        split at hF <;> omega
      | some fm =>
        cases fm with
        | fixed =>
          rw [hfi, decide_eq_true rfl, if_pos rfl] at hF
          rw [List.getElem?_cons_succ] at hF
          exact hF
        | live =>
          rw [hfi, decide_eq_false (by simp), if_neg (by decide), if_pos ((fr_live r false i).mp hfi).1] at hF
          exact hF.1
        | free =>
          rw [hfi, decide_eq_false (by simp), if_neg (by decide)] at hF
          show 0 ≤ a
          split at hF <;> omega
        | first =>
          rw [hfi, decide_eq_false (by simp), if_neg (by decide)] at hF
          show 0 ≤ a
          split at hF <;> omega
    have hlet : ∀ a ∈ f0 :: g, -1 ≤ a ∧ a < p := fun a ha => by
      obtain ⟨i, hi⟩ := List.getElem?_of_mem ha
      have hF := hfx i a hi
      unfold FL at hF
      split at hF
      · exact hF
      · split at hF
        · rename_i h0 hcon
          obtain ⟨j, rfl⟩ : ∃ j, i = j + 1 := ⟨i - 1, by omega⟩
          have m1 : (corners (x0 :: r)).contains (((j + 1 : Nat) : Int) + 1) = decide ((fr false r)[j]? = some .fixed) := by
            have := mem_corners (x0 :: r) (j + 2)
            rw [formsM_cons, cF_first] at this
            rw [← this]
            congr 1
          rw [m1] at hcon
          rw [List.getElem?_cons_succ] at hF
          rcases fr_fixed r false j a (of_decide_eq_true hcon) hF with rfl | rfl <;> omega
        · split at hF <;> omega
    have hval : Valid (f0 :: g ++ m ++ (if m = [] then [] else [1])) := by
      by_cases hm : m = []
      · subst hm
        rw [if_pos rfl, List.append_nil, List.append_nil]
        rcases List.eq_nil_or_concat (f0 :: g) with e | ⟨t, l, e⟩
        · cases e
        · rw [List.concat_eq_append] at e
          have hlast : (f0 :: g)[c]? = some l := by
            rw [e]
            have ht : t.length = c := by
              have := congrArg List.length e
              rw [hfl'] at this
              simp at this
              omega
            rw [List.getElem?_append_right (by omega), ht, Nat.sub_self]
            rfl
          have hF := hfx c l hlast
          unfold FL at hF
          rw [if_neg (by omega), hcn, if_neg (by decide), hcc, if_pos rfl] at hF
          rw [e]
          exact Valid.snoc t (by omega)
      · rw [if_neg hm]
        exact Valid.snoc _ (by decide)
    have hlen : (f0 :: g ++ m ++ (if m = [] then [] else [1])).length ≤ 60 := by
      rw [List.length_append, List.length_append, hfl']
      split
      · simp
        omega
      · simp
        omega
    refine ⟨?_, wdWord_mk hlen (fun a ha => ?_) hval, hlen⟩
    · rw [List.append_assoc, List.cons_append, kindM_cons, kin_ks r false g _ htl hgl hkl2 (fun _ => rfl), if_neg hTne, hk1]
    · rw [List.append_assoc] at ha
      rcases List.mem_append.mp ha with h | h
      · exact hlet a h
      · rcases List.mem_append.mp h with h | h
        · have := hmx a h
          omega
        · split at h
          · cases h
          · rw [List.mem_singleton.mp h]
            omega
/-! ### the kind among all words -/
theorem ext_mem {ls : List Int} {l : List (List Int)} {b : List Int} {a : Int} (hb : b ∈ l) (ha : a ∈ ls) : b ++ [a] ∈ ext ls l := List.mem_flatMap.mpr ⟨b, hb, List.mem_map.mpr ⟨a, ha, rfl⟩⟩
theorem begun_mem {p : Nat} : ∀ (n : Nat) (u : List Int), u.length = n → (∀ a ∈ u, -1 ≤ a ∧ a < p) → u ∈ begun p n
  | 0, u, h, _ => by
    rw [List.eq_nil_of_length_eq_zero h]
    exact List.mem_singleton.mpr rfl
  | n + 1, u, h, hx => by
    rcases List.eq_nil_or_concat u with rfl | ⟨t, l, e⟩
    · simp at h
    · rw [List.concat_eq_append] at e
      subst e
      refine ext_mem (begun_mem n t (by simpa using h) fun a ha => hx a (List.mem_append_left _ ha)) (lets_mem.mpr ?_)
      have := hx l (by simp)
      omega
theorem kind_all {p : Nat} (hp : 2 ≤ p) (w : List Int) : kindM w ∈ allM p (kindM w).length := by
  rcases (kind_valid w).cases with h | h | ⟨t, l, h, hl⟩
  · rw [h]
    exact List.mem_singleton.mpr rfl
  · rcases kind_shape w with h' | ⟨T, hT, h', _⟩
    · rw [h'] at h
      cases h
    · rw [h'] at h
      cases h
      exact absurd rfl hT
  · have hlet := kind_letters w
    rw [h] at hlet ⊢
    rw [List.length_append]
    refine List.mem_append_left _ (ext_mem (begun_mem t.length t rfl fun a ha => ?_) (lets_mem.mpr ?_))
    · rcases hlet a (List.mem_append_left _ ha) with h | h | h <;> omega
    · rcases hlet l (by simp) with h | h | h <;> omega
theorem begun_letters {p : Nat} : ∀ (n : Nat) (u : List Int), u ∈ begun p n → ∀ a ∈ u, -1 ≤ a
  | 0, u, h, a, ha => by
    have e : u = [] := List.mem_singleton.mp h
    subst e
    cases ha
  | n + 1, u, h, a, ha => by
    obtain ⟨b, hb, l, hl, rfl⟩ := ext_word _ _ h
    rcases List.mem_append.mp ha with h | h
    · exact begun_letters n b hb a h
    · rw [List.mem_singleton.mp h]
      exact (lets_mem.mp hl).1
theorem all_letters {p n : Nat} {u : List Int} (h : u ∈ allM p n) : ∀ a ∈ u, -1 ≤ a := by
  cases n with
  | zero =>
    have e : u = [] := List.mem_singleton.mp h
    subst e
    exact fun a ha => nomatch ha
  | succ n =>
    intro a ha
    rcases List.mem_append.mp h with h | h
    · obtain ⟨b, hb, l, hl, rfl⟩ := ext_word _ _ h
      rcases List.mem_append.mp ha with h | h
      · exact begun_letters n b hb a h
      · rw [List.mem_singleton.mp h]
        have := (lets_mem.mp hl).1
        omega
    · split at h
      · rw [List.mem_singleton.mp h] at ha
        rw [List.mem_singleton.mp ha]
        exact Int.le_refl _
      · cases h
theorem told : [kindM [], kindM [-1], kindM [1, 1], kindM [0, -1, 1], kindM [0, 0, -1, 0, 1], kindM [0, -1, 1, -1, 1]] = [[], [], [], [-1, -1, 1], [-1, 0, -1, 0, 1], [-1, -1, 1, -1, 1]] := by decide
end KM
set_option Elab.async false
set_option linter.all false
set_option maxRecDepth 100000
set_option maxHeartbeats 4000000
/-! the data layer: what a value stands for, states over data, judgements -/
namespace KD
open PySem PySem.Spec PyProof.Rows L2
open Evl (Ex Ex.refl Ex.trans Ex.new Ex.mut ex_l ex_t fresh_back)

inductive Dv where
  | non | bl (b : Bool) | int (i : Int) | str (x : Str) | lst (l : List Dv) | tup (l : List Dv) | dice | br (p : Int) (w : List Int) | dct | scr (ns : List Int)

def diceO (a : Addr) : HO := .ext fun h => ∃ (i j k : Int) (t u v : Tok) (n : Nat), h.get? a = some { cls := .type "list", data := .seq #[.int i t, .int j u, .int k v] n }

/-- the written part, the class Branch -/
structure Kc where
  K : PySem.W.Frag
  C : Addr

mutual
inductive Rp (c : Kc) (H : Hp) : V → Dv → Prop
  | non : Rp c H .non .non
  | bl (b : Bool) : Rp c H (.bl b) (.bl b)
  | int (i : Int) : Rp c H (.int i) (.int i)
  | str (x : Str) : Rp c H (.str x) (.str x)
  | lst {a : Addr} {xs : List V} {l : List Dv} : H a = some (.lst xs) → RpAll c H xs l → Rp c H (.ref a) (.lst l)
  | tup {a : Addr} {xs : List V} {l : List Dv} : SqT c.K H a xs → RpAll c H xs l → Rp c H (.ref a) (.tup l)
  | dice {a : Addr} : H a = some (diceO a) → Rp c H (.ref a) .dice
  | br {a dx b : Addr} {vs : List (Option V)} {p : Int} {w : List Int} : H a = some (SlX.SlO a c.C dx vs) → H dx = some (.xd []) → vs[0]? = some (some (.int p)) → vs[2]? = some (some (.ref b)) → SqT c.K H b (w.map V.int) → Rp c H (.ref a) (.br p w)
  | dct {a : Addr} : H a = some (.dK []) → Rp c H (.ref a) .dct
  | scr {a : Addr} {ns : List Int} : SqL c.K H a (ns.map V.int) → Rp c H (.ref a) (.scr ns)
inductive RpAll (c : Kc) (H : Hp) : List V → List Dv → Prop
  | nil : RpAll c H [] []
  | cons {v : V} {vs : List V} {d : Dv} {ds : List Dv} : Rp c H v d → RpAll c H vs ds → RpAll c H (v :: vs) (d :: ds)
end

section
variable {c : Kc} {H H' : Hp}
mutual
theorem Rp.ex (e : Ex H H') : ∀ {v : V} {d : Dv}, Rp c H v d → Rp c H' v d
  | _, _, .non => .non
  | _, _, .bl b => .bl b
  | _, _, .int i => .int i
  | _, _, .str x => .str x
  | _, _, .lst h r => .lst (e _ _ h) (RpAll.ex e r)
  | _, _, .tup h r => .tup (ex_t e h) (RpAll.ex e r)
  | _, _, .dice h => .dice (e _ _ h)
  | _, _, .br h1 h2 h3 h4 h5 => .br (e _ _ h1) (e _ _ h2) h3 h4 (ex_t e h5)
  | _, _, .dct h => .dct (e _ _ h)
  | _, _, .scr h => .scr (ex_l e h)
theorem RpAll.ex (e : Ex H H') : ∀ {vs : List V} {ds : List Dv}, RpAll c H vs ds → RpAll c H' vs ds
  | _, _, .nil => .nil
  | _, _, .cons h r => .cons (Rp.ex e h) (RpAll.ex e r)
end
theorem RpAll.length : ∀ {vs : List V} {ds : List Dv}, RpAll c H vs ds → vs.length = ds.length
  | _, _, .nil => rfl
  | _, _, .cons _ r => congrArg (· + 1) (RpAll.length r)
theorem RpAll.get : ∀ {vs : List V} {ds : List Dv} {i : Nat} {d : Dv}, RpAll c H vs ds → ds[i]? = some d → ∃ v, vs[i]? = some v ∧ Rp c H v d
  | _, _, _, _, .nil, e => by simp at e
  | _, _, 0, _, .cons h r, e => by simp at e; subst e; exact ⟨_, rfl, h⟩
  | _, _, i + 1, d, .cons h r, e => by
    obtain ⟨v, h1, h2⟩ := RpAll.get (i := i) (d := d) r (by simpa using e)
    exact ⟨v, by simpa using h1, h2⟩
theorem RpAll.get' : ∀ {vs : List V} {ds : List Dv} {i : Nat} {v : V}, RpAll c H vs ds → vs[i]? = some v → ∃ d, ds[i]? = some d ∧ Rp c H v d
  | _, _, _, _, .nil, e => by simp at e
  | _, _, 0, _, .cons h r, e => by simp at e; subst e; exact ⟨_, rfl, h⟩
  | _, _, i + 1, d, .cons h r, e => by
    obtain ⟨v, h1, h2⟩ := RpAll.get' (i := i) (v := d) r (by simpa using e)
    exact ⟨v, by simpa using h1, h2⟩
theorem RpAll.append : ∀ {vs us : List V} {ds es : List Dv}, RpAll c H vs ds → RpAll c H us es → RpAll c H (vs ++ us) (ds ++ es)
  | _, _, _, _, .nil, s => s
  | _, _, _, _, .cons h r, s => .cons h (RpAll.append r s)
theorem RpAll.take : ∀ {vs : List V} {ds : List Dv} (n : Nat), RpAll c H vs ds → RpAll c H (vs.take n) (ds.take n)
  | _, _, 0, _ => .nil
  | _, _, _ + 1, .nil => .nil
  | _, _, n + 1, .cons h r => .cons h (RpAll.take n r)
theorem RpAll.drop : ∀ {vs : List V} {ds : List Dv} (n : Nat), RpAll c H vs ds → RpAll c H (vs.drop n) (ds.drop n)
  | _, _, 0, r => r
  | _, _, _ + 1, .nil => .nil
  | _, _, n + 1, .cons _ r => RpAll.drop n r
theorem RpAll.reverse : ∀ {vs : List V} {ds : List Dv}, RpAll c H vs ds → RpAll c H vs.reverse ds.reverse
  | _, _, .nil => .nil
  | _, _, .cons h r => by
    rw [List.reverse_cons, List.reverse_cons]
    exact RpAll.append (RpAll.reverse r) (.cons h .nil)
theorem RpAll.split : ∀ {vs : List V} {ds es : List Dv}, RpAll c H vs (ds ++ es) → RpAll c H (vs.take ds.length) ds ∧ RpAll c H (vs.drop ds.length) es := by
  intro vs ds es h
  have h1 := h.take ds.length
  have h2 := h.drop ds.length
  rw [List.take_left'] at h1
  rw [List.drop_left'] at h2
  exact ⟨h1, h2⟩
  all_goals rfl
theorem rp_ints : ∀ {ns : List Int} {vs : List V}, RpAll c H vs (ns.map Dv.int) → vs = ns.map V.int
  | [], _, .nil => rfl
  | n :: ns, _, .cons h r => by
    cases h
    rw [rp_ints (ns := ns) r]
    rfl
theorem ints_rp : ∀ (ns : List Int), RpAll c H (ns.map V.int) (ns.map Dv.int)
  | [] => .nil
  | n :: ns => .cons (.int n) (ints_rp ns)
theorem rp_bls : ∀ {ns : List Bool} {vs : List V}, RpAll c H vs (ns.map Dv.bl) → vs = ns.map V.bl
  | [], _, .nil => rfl
  | n :: ns, _, .cons h r => by
    cases h
    rw [rp_bls (ns := ns) r]
    rfl
theorem rp_strs : ∀ {ns : List Str} {vs : List V}, RpAll c H vs (ns.map Dv.str) → vs = ns.map V.str
  | [], _, .nil => rfl
  | n :: ns, _, .cons h r => by
    cases h
    rw [rp_strs (ns := ns) r]
    rfl
end

/-- the stable heap Hs within the heap H grow together; what stands in H beside Hs stays beside it -/
structure Stp (Hs H Hs' H' : Hp) : Prop where
  ex1 : Ex Hs Hs'
  ex2 : Ex H H'
  sub : Ex Hs' H'
  off : ∀ p, Hs p = none → H p ≠ none → Hs' p = none
section
variable {Hs H Hs1 H1 Hs2 H2 : Hp}
theorem Stp.refl (e : Ex Hs H) : Stp Hs H Hs H := ⟨Ex.refl _, Ex.refl _, e, fun _ h _ => h⟩
theorem Stp.trans (a : Stp Hs H Hs1 H1) (b : Stp Hs1 H1 Hs2 H2) : Stp Hs H Hs2 H2 :=
  ⟨a.ex1.trans b.ex1, a.ex2.trans b.ex2, b.sub, fun p h1 h2 => b.off p (a.off p h1 h2) (by
    cases q : H p with
    | none => exact absurd q h2
    | some o => rw [a.ex2 p o q]; exact fun z => nomatch z)⟩
/-- a new object, stable at once -/
theorem Stp.new (e : Ex Hs H) {p : Addr} {o : HO} (h : H p = none) : Stp Hs H (upd Hs p o) (upd H p o) where
  ex1 := Ex.new (fresh_back e h)
  ex2 := Ex.new h
  sub := fun a u q => by
    by_cases ha : a = p
    · subst ha
      rw [upd_same] at q ⊢
      exact q
    · rw [upd_ne ha] at q ⊢
      exact e a u q
  off := fun a h1 h2 => by
    have : a ≠ p := fun z => by subst z; exact h2 h
    rw [upd_ne this]
    exact h1
theorem Stp.subs (a : Stp Hs H Hs1 H1) : Ex Hs H1 := a.ex1.trans a.sub
end

/-- slots: nothing told, data, a list of one's own that grows -/
inductive Sl where
  | non | val (d : Dv) | own (ds : List Dv)
def Sl.isOwn : Sl → Bool
  | .own _ => true
  | _ => false

/-- a def's run: the written part, the stable heap and the heap at its entry -/
structure Wc where
  c : Kc
  Ho : Hp
  Hb : Hp

def SlAt (W : Wc) (P : Addr) (Hs H : Hp) : Sl → Option V → Prop
  | .non, _ => True
  | .val d, o => ∃ v, o = some v ∧ Rp W.c Hs v d
  | .own ds, o => o = some (.ref P) ∧ W.Hb P = none ∧ Hs P = none ∧ ∃ xs, H P = some (.lst xs) ∧ RpAll W.c Hs xs ds

structure SD (W : Wc) (δ : List Sl) (σ : L2.St) (Hs H : Hp) : Prop where
  stp : Stp W.Ho W.Hb Hs H
  len : σ.length = δ.length
  at_ : ∃ P : Addr, ∀ (i : Nat) (s : Sl) (o : Option V), δ[i]? = some s → σ[i]? = some o → SlAt W P Hs H s o

section
variable {W : Wc} {δ δ' : List Sl} {σ : L2.St} {Hs H Hs' H' : Hp}
theorem SlAt.step {P : Addr} {s : Sl} {o : Option V} (a : SlAt W P Hs H s o) (st : Stp Hs H Hs' H') : SlAt W P Hs' H' s o := by
  cases s with
  | non => trivial
  | val d => obtain ⟨v, e, r⟩ := a; exact ⟨v, e, r.ex st.ex1⟩
  | own ds =>
    obtain ⟨e, h1, h2, xs, h3, h4⟩ := a
    exact ⟨e, h1, st.off _ h2 (by rw [h3]; exact fun z => nomatch z), xs, st.ex2 _ _ h3, h4.ex st.ex1⟩
theorem SD.step (s : SD W δ σ Hs H) (st : Stp Hs H Hs' H') : SD W δ σ Hs' H' :=
  ⟨s.stp.trans st, s.len, let ⟨P, h⟩ := s.at_; ⟨P, fun i sl o h1 h2 => (h i sl o h1 h2).step st⟩⟩
theorem SD.sub (s : SD W δ σ Hs H) : Ex Hs H := s.stp.sub
theorem SD.get (s : SD W δ σ Hs H) {i : Nat} {d : Dv} (h : δ[i]? = some (.val d)) : ∃ v, σ[i]? = some (some v) ∧ Rp W.c Hs v d := by
  obtain ⟨P, a⟩ := s.at_
  have hi : i < σ.length := by
    rw [s.len]
    exact (List.getElem?_eq_some_iff.mp h).1
  obtain ⟨v, e, r⟩ := a i _ σ[i] h (List.getElem?_eq_getElem hi)
  exact ⟨v, by rw [List.getElem?_eq_getElem hi, e], r⟩
theorem SD.getOwn (s : SD W δ σ Hs H) {i : Nat} {ds : List Dv} (h : δ[i]? = some (.own ds)) : ∃ P xs, σ[i]? = some (some (.ref P)) ∧ W.Hb P = none ∧ Hs P = none ∧ H P = some (.lst xs) ∧ RpAll W.c Hs xs ds := by
  obtain ⟨P, a⟩ := s.at_
  have hi : i < σ.length := by
    rw [s.len]
    exact (List.getElem?_eq_some_iff.mp h).1
  obtain ⟨e, h1, h2, xs, h3, h4⟩ := a i _ σ[i] h (List.getElem?_eq_getElem hi)
  exact ⟨P, xs, by rw [List.getElem?_eq_getElem hi, e], h1, h2, h3, h4⟩
theorem set_get {α : Type} {l : List α} {i j : Nat} {x y : α} (h : (l.set i x)[j]? = some y) : (j = i ∧ i < l.length ∧ y = x) ∨ (j ≠ i ∧ l[j]? = some y) := by
  by_cases e : j = i
  · subst e
    by_cases hl : j < l.length
    · rw [List.getElem?_set_self hl] at h
      exact .inl ⟨rfl, hl, (Option.some.inj h).symm⟩
    · rw [List.getElem?_eq_none (by simpa using hl)] at h
      cases h
  · rw [List.getElem?_set_ne (Ne.symm e)] at h
    exact .inr ⟨e, h⟩
theorem SD.set (s : SD W δ σ Hs H) {i : Nat} {v : V} {d : Dv} (r : Rp W.c Hs v d) : SD W (δ.set i (.val d)) (σ.set i (some v)) Hs H := by
  refine ⟨s.stp, by rw [List.length_set, List.length_set, s.len], ?_⟩
  obtain ⟨P, a⟩ := s.at_
  refine ⟨P, fun j sl o h1 h2 => ?_⟩
  rcases set_get h1 with ⟨e, _, rfl⟩ | ⟨ne, h1⟩
  · rcases set_get h2 with ⟨_, _, rfl⟩ | ⟨ne, _⟩
    · exact ⟨v, rfl, r⟩
    · exact absurd e ne
  · rcases set_get h2 with ⟨e, _, _⟩ | ⟨_, h2⟩
    · exact absurd e ne
    · exact a j sl o h1 h2
/-- forget -/
theorem SD.weak (s : SD W δ σ Hs H) (hl : δ'.length = δ.length) (h : ∀ (i : Nat) (sl : Sl), δ'[i]? = some sl → sl = Sl.non ∨ δ[i]? = some sl) : SD W δ' σ Hs H := by
  refine ⟨s.stp, by rw [s.len, hl], ?_⟩
  obtain ⟨P, a⟩ := s.at_
  refine ⟨P, fun j sl o h1 h2 => ?_⟩
  rcases h j sl h1 with rfl | h
  · trivial
  · exact a j sl o h h2
/-- a slot that is forgotten in σ -/
theorem SD.wipe1 (s : SD W δ σ Hs H) (i : Nat) : SD W (δ.set i .non) (σ.set i none) Hs H := by
  refine ⟨s.stp, by rw [List.length_set, List.length_set, s.len], ?_⟩
  obtain ⟨P, a⟩ := s.at_
  refine ⟨P, fun j sl o h1 h2 => ?_⟩
  rcases set_get h1 with ⟨e, _, rfl⟩ | ⟨ne, h1⟩
  · trivial
  · rcases set_get h2 with ⟨e, _, _⟩ | ⟨_, h2⟩
    · exact absurd e ne
    · exact a j sl o h1 h2
def wipeD (δ : List Sl) : List Nat → List Sl
  | [] => δ
  | v :: vs => (wipeD δ vs).set v .non
theorem SD.wipe (s : SD W δ σ Hs H) : ∀ vs : List Nat, SD W (wipeD δ vs) (L2.wipe σ vs) Hs H
  | [] => s
  | v :: vs => (SD.wipe s vs).wipe1 v
/-- the list of one's own at slot i is let stand: data from now on -/
theorem SD.freeze (s : SD W δ σ Hs H) {i : Nat} {ds : List Dv} (h : δ[i]? = some (.own ds)) (ho : ∀ j, j ≠ i → ∀ es, δ[j]? ≠ some (.own es)) : ∃ Hs', Ex Hs Hs' ∧ SD W (δ.set i (.val (.lst ds))) σ Hs' H := by
  obtain ⟨P, xs, e, hb, hs, hH, ha⟩ := s.getOwn h
  have ex : Ex Hs (upd Hs P (.lst xs)) := Ex.new hs
  refine ⟨upd Hs P (.lst xs), ex, ⟨s.stp.ex1.trans ex, s.stp.ex2, fun a o q => ?_, fun p h1 h2 => ?_⟩, by rw [List.length_set, s.len], P, fun j sl o h1 h2 => ?_⟩
  · by_cases hp : a = P
    · subst hp
      rw [upd_same] at q
      rw [hH, q]
    · rw [upd_ne hp] at q
      exact s.sub a o q
  · have np : p ≠ P := fun z => by subst z; exact h2 hb
    rw [upd_ne np]
    exact s.stp.off p h1 h2
  · rcases set_get h1 with ⟨rfl, _, rfl⟩ | ⟨ne, h1⟩
    · rw [e] at h2
      cases h2
      exact ⟨.ref P, rfl, .lst upd_same (ha.ex ex)⟩
    · obtain ⟨P', a⟩ := s.at_
      have q := a j sl o h1 h2
      cases sl with
      | non => trivial
      | val d => obtain ⟨v, e, r⟩ := q; exact ⟨v, e, r.ex ex⟩
      | own es => exact absurd h1 (ho j ne es)
end

/-! ### judgements -/
def EP (W : Wc) (te : TE) (δ : List Sl) (P : Dv → Prop) : Prop := ∀ (σ : L2.St) (Hs H : Hp), SD W δ σ Hs H → ∀ Q : VK, (∀ v d Hs' H', Stp Hs H Hs' H' → P d → Rp W.c Hs' v d → Q v H') → te σ H Q
abbrev Ev (W : Wc) (te : TE) (δ : List Sl) (d : Dv) : Prop := EP W te δ (· = d)
def TP (W : Wc) (tt : TT) (δ : List Sl) (P : Bool → Prop) : Prop := ∀ (σ : L2.St) (Hs H : Hp), SD W δ σ Hs H → ∀ Q : Bool → Hp → Prop, (∀ b Hs' H', Stp Hs H Hs' H' → P b → Q b H') → tt σ H Q
abbrev Et (W : Wc) (tt : TT) (δ : List Sl) (b : Bool) : Prop := TP W tt δ (· = b)
def AP (W : Wc) (ta : TA) (δ : List Sl) (P : List Dv → Prop) : Prop := ∀ (σ : L2.St) (Hs H : Hp), SD W δ σ Hs H → ∀ Q : List V → Hp → Prop, (∀ vs ds Hs' H', Stp Hs H Hs' H' → P ds → RpAll W.c Hs' vs ds → Q vs H') → ta σ H Q
abbrev Ea (W : Wc) (ta : TA) (δ : List Sl) (ds : List Dv) : Prop := AP W ta δ (· = ds)
/-- a statement: N what is told of the slots behind it, R of what is returned -/
def Sx (W : Wc) (ts : TS) (δ : List Sl) (N : List Sl → Prop) (R : Dv → Prop) : Prop := ∀ (σ : L2.St) (Hs H : Hp), SD W δ σ Hs H → ∀ D : Ends,
  (∀ δ' σ' Hs' H', N δ' → Ex Hs Hs' → SD W δ' σ' Hs' H' → D.nx σ' H') → (∀ v d Hs' H', Stp W.Ho W.Hb Hs' H' → R d → Rp W.c Hs' v d → D.rt v H') → ts D σ H
/-- a two-place operation on values -/
def RP (W : Wc) (r : R2) (a b : Dv) (P : Dv → Prop) : Prop := ∀ (Hs H : Hp) (v u : V), Ex Hs H → Rp W.c Hs v a → Rp W.c Hs u b → ∀ Q : VK, (∀ z d Hs' H', Stp Hs H Hs' H' → P d → Rp W.c Hs' z d → Q z H') → r v u H Q
abbrev Rv (W : Wc) (r : R2) (a b d : Dv) : Prop := RP W r a b (· = d)
/-- a call on values -/
def CP (W : Wc) (r : List V → Hp → VK → Prop) (ds : List Dv) (P : Dv → Prop) : Prop := ∀ (Hs H : Hp) (vs : List V), Ex Hs H → RpAll W.c Hs vs ds → ∀ Q : VK, (∀ z d Hs' H', Stp Hs H Hs' H' → P d → Rp W.c Hs' z d → Q z H') → r vs H Q
abbrev Cv (W : Wc) (r : List V → Hp → VK → Prop) (ds : List Dv) (d : Dv) : Prop := CP W r ds (· = d)
/-- a walk over data -/
structure Wk (W : Wc) (J : It) (Hs H : Hp) (ys : List Dv) : Prop where
  ex : ∃ (G : Hp → Prop) (Y : Nat → Hp → V → Hp → Prop), Walk J ys.length G Y ∧ (∀ H', Ex Hs H' → G H') ∧
    ∀ (i : Nat) (Hs1 H1 : Hp) (x : V) (H2 : Hp) (d : Dv), Ex Hs Hs1 → Ex Hs1 H1 → ys[i]? = some d → Y i H1 x H2 → ∃ Hs2, Stp Hs1 H1 Hs2 H2 ∧ Rp W.c Hs2 x d
def IP (W : Wc) (wi : TI) (δ : List Sl) (P : List Dv → Prop) : Prop := ∀ (σ : L2.St) (Hs H : Hp), SD W δ σ Hs H → ∀ R : It → Hp → Prop, (∀ J ys Hs' H', Stp Hs H Hs' H' → P ys → Wk W J Hs' H' ys → R J H') → wi σ H R
abbrev Iv (W : Wc) (wi : TI) (δ : List Sl) (ys : List Dv) : Prop := IP W wi δ (· = ys)
/-- a target -/
def Tg (W : Wc) (g : TG) (d : Dv) (δ δ' : List Sl) : Prop := ∀ (σ : L2.St) (Hs H : Hp) (v : V), SD W δ σ Hs H → Rp W.c Hs v d → ∀ Q : L2.St → Hp → Prop, (∀ σ', SD W δ' σ' Hs H → Q σ' H) → g v σ H Q

/-- a promise by data: α the parameters, args their data, pre when, res what comes -/
def spF {α : Type} (c : Kc) (args : α → List Dv) (pre : α → Prop) (res : α → Dv → Prop) : Sp := fun vs H Q _ => ∃ (a : α) (Hs : Hp), RpAll c Hs vs (args a) ∧ Ex Hs H ∧ pre a ∧ ∀ v d Hs' H', Stp Hs H Hs' H' → res a d → Rp c Hs' v d → Q v H'

section
variable {P : Program} {w : World} {K : PySem.W.Frag} {mg : Str → Option Value} {base : Heap} {α : Type}
theorem sd_start {c : Kc} {Hs H : Hp} {vs : List V} {ds : List Dv} (m : Nat) (r : RpAll c Hs vs ds) (e : Ex Hs H) : SD ⟨c, Hs, H⟩ (ds.map Sl.val ++ List.replicate m Sl.non) (vs.map some ++ List.replicate m none) Hs H := by
  have hl := r.length
  refine ⟨Stp.refl e, by simp [hl], 0, fun i sl o h1 h2 => ?_⟩
  by_cases hi : i < ds.length
  · rw [List.getElem?_append_left (by simpa using hi), List.getElem?_map] at h1
    rw [List.getElem?_append_left (by simpa [hl] using hi), List.getElem?_map] at h2
    cases e1 : ds[i]? with
    | none => rw [e1] at h1; cases h1
    | some d =>
      rw [e1] at h1
      cases h1
      obtain ⟨v, ev, rv⟩ := r.get e1
      rw [ev] at h2
      cases h2
      exact ⟨v, rfl, rv⟩
  · rw [List.getElem?_append_right (by simpa using hi), List.getElem?_replicate] at h1
    split at h1
    · cases h1; trivial
    · cases h1
/-- THE RULE for a def -/
theorem fn_ok {c : Kc} {x qual : Str} {st : Stmt} {f : Addr} {fd : FuncData} {N ps : List Str} {k : Nat} {args : α → List Dv} {pre : α → Prop} {res : α → Dv → Prop} (F : Fun K x qual st f fd) (S : FnScope N ps (defScope st)) (len : ∀ a, (args a).length = ps.length)
    (hbody : ∀ (cdv : Value) (A : Around) (outer : List Env) (s : Shared) (H : Hp) (E : XK), Room k (A.deeper (envOfC qual (defScope st) s.heap.objs.size f cdv)) →
      ∃ t, PSs (cxOf CX0 P w K mg base N qual (defScope st) f cdv A outer s H E).nox (defBody st) t ∧ ∀ (Ho : Hp) (a : α), pre a → Sx ⟨c, Ho, H⟩ t ((args a).map Sl.val ++ List.replicate (N.length - ps.length) Sl.non) (fun _ => res a .non) (res a)) :
    FnOk P w K mg base CX0 (k + 1) f fd ps (spF c args pre res) := by
  refine F.ok S (fun vs H Q E h => ?_) (fun cdv A outer s H vs Q E hr h => ?_)
  · obtain ⟨a, Hs, r, _⟩ := h
    rw [r.length, len a]
  · obtain ⟨a, Hs, r, e, hp, q⟩ := h
    obtain ⟨t, ht, hs⟩ := hbody cdv A outer s H E hr
    refine ⟨t, ht, ?_⟩
    have hl : vs.length = ps.length := by rw [r.length, len a]
    have s0 := sd_start (N.length - ps.length) r e
    have s1 : L2.start N vs = vs.map some ++ List.replicate (N.length - ps.length) none := by
      unfold L2.start
      rw [hl]
    rw [s1]
    exact hs Hs a hp _ Hs H s0 _ (fun δ' σ' Hs' H' n _ sd => q .non .non Hs' H' sd.stp n .non) (fun v d Hs' H' st hd rv => q v d Hs' H' st hd rv)
end
end KD
set_option Elab.async false
set_option linter.all false
set_option maxRecDepth 100000
set_option maxHeartbeats 4000000
/-! the rules over data: expressions, tests, arguments -/
namespace KD
open PySem PySem.Spec PyProof.Rows L2
open Evl (Ex Ex.refl Ex.trans Ex.new Ex.mut ex_l ex_t fresh_back)

section
variable {W : Wc} {δ δ' : List Sl} {ta tb tc te : TE} {t u : TT} {a b d e : Dv} {P Pa Pb : Dv → Prop} {r r' : R2}

theorem EP.mono {P' : Dv → Prop} (h : EP W te δ P) (k : ∀ d, P d → P' d) : EP W te δ P' := fun σ Hs H s Q q => h σ Hs H s Q fun v d Hs' H' st hd rv => q v d Hs' H' st (k d hd) rv
theorem ev_eq (h : Ev W te δ d) (k : d = e) : Ev W te δ e := k ▸ h
theorem ev_var {i : Nat} (h : δ[i]? = some (.val d)) : Ev W (tVar i) δ d := fun σ Hs H s Q q => by
  obtain ⟨v, e, r⟩ := s.get h
  exact ⟨v, e, q v d Hs H (Stp.refl s.sub) rfl r⟩
theorem ev_int {i : Int} : Ev W (tC (.int i)) δ (.int i) := fun σ Hs H s Q q => q _ _ Hs H (Stp.refl s.sub) rfl (.int i)
theorem ev_bl {i : Bool} : Ev W (tC (.bl i)) δ (.bl i) := fun σ Hs H s Q q => q _ _ Hs H (Stp.refl s.sub) rfl (.bl i)
theorem ev_str {i : Str} : Ev W (tC (.str i)) δ (.str i) := fun σ Hs H s Q q => q _ _ Hs H (Stp.refl s.sub) rfl (.str i)
theorem ev_non : Ev W (tC .non) δ .non := fun σ Hs H s Q q => q _ _ Hs H (Stp.refl s.sub) rfl .non
/-- the rest of an evaluation, from a value -/
theorem EP.run (h : EP W te δ P) {σ : L2.St} {Hs H : Hp} (s : SD W δ σ Hs H) {Q : VK} (q : ∀ v d Hs' H', Stp Hs H Hs' H' → SD W δ σ Hs' H' → P d → Rp W.c Hs' v d → Q v H') : te σ H Q := h σ Hs H s Q fun v d Hs' H' st hd rv => q v d Hs' H' st (s.step st) hd rv
theorem TP.run {P : Bool → Prop} (h : TP W t δ P) {σ : L2.St} {Hs H : Hp} (s : SD W δ σ Hs H) {Q : Bool → Hp → Prop} (q : ∀ b Hs' H', Stp Hs H Hs' H' → SD W δ σ Hs' H' → P b → Q b H') : t σ H Q := h σ Hs H s Q fun b Hs' H' st hd => q b Hs' H' st (s.step st) hd
theorem AP.run {ta : TA} {P : List Dv → Prop} (h : AP W ta δ P) {σ : L2.St} {Hs H : Hp} (s : SD W δ σ Hs H) {Q : List V → Hp → Prop} (q : ∀ vs ds Hs' H', Stp Hs H Hs' H' → SD W δ σ Hs' H' → P ds → RpAll W.c Hs' vs ds → Q vs H') : ta σ H Q := h σ Hs H s Q fun vs ds Hs' H' st hd rv => q vs ds Hs' H' st (s.step st) hd rv

/-! ### operators -/
theorem ep_op (ha : EP W ta δ Pa) (hb : EP W tb δ Pb) (hr : ∀ a b, Pa a → Pb b → RP W r a b P) : EP W (tOp r ta tb) δ P := fun σ Hs H s Q q =>
  ha.run s fun v d Hs1 H1 st1 s1 pa ra => hb.run s1 fun u e Hs2 H2 st2 s2 pb rb => hr d e pa pb Hs2 H2 v u s2.sub (ra.ex st2.ex1) rb Q fun z dd Hs3 H3 st3 pd rd => q z dd Hs3 H3 ((st1.trans st2).trans st3) pd rd
theorem ev_op (ha : Ev W ta δ a) (hb : Ev W tb δ b) (hr : Rv W r a b d) : Ev W (tOp r ta tb) δ d := ep_op ha hb fun x y hx hy => by
  subst hx; subst hy
  exact hr
theorem ev_neg {i : Int} (ha : Ev W ta δ (.int i)) : Ev W (tUn (rU fun i => .int (-i)) ta) δ (.int (-i)) := fun σ Hs H s Q q =>
  ha.run s fun v d Hs1 H1 st1 s1 pa ra => by
    subst pa
    cases ra
    exact ⟨i, rfl, q _ _ Hs1 H1 st1 rfl (.int _)⟩
theorem rv_I0 {g : Int → Int → V} {i j : Int} (h : ∀ Hs, Rp W.c Hs (g i j) d) : Rv W (rI0 g) (.int i) (.int j) d := fun Hs H v u e r1 r2 Q q => by
  cases r1
  cases r2
  exact ⟨i, j, rfl, rfl, q _ _ Hs H (Stp.refl e) rfl (h Hs)⟩
theorem rv_I {C : Int → Int → Prop} {g : Int → Int → V} {i j : Int} (hc : C i j) (h : ∀ Hs, Rp W.c Hs (g i j) d) : Rv W (rI C g) (.int i) (.int j) d := fun Hs H v u e r1 r2 Q q => by
  cases r1
  cases r2
  exact ⟨i, j, rfl, rfl, hc, q _ _ Hs H (Stp.refl e) rfl (h Hs)⟩
theorem rv_int {g : Int → Int → Int} {i j : Int} : Rv W (rI0 fun i j => .int (g i j)) (.int i) (.int j) (.int (g i j)) := rv_I0 fun _ => .int _
theorem rv_bool {g : Int → Int → Bool} {i j : Int} : Rv W (rI0 fun i j => .bl (g i j)) (.int i) (.int j) (.bl (g i j)) := rv_I0 fun _ => .bl _
theorem rv_intC {C : Int → Int → Prop} {g : Int → Int → Int} {i j : Int} (hc : C i j) : Rv W (rI C fun i j => .int (g i j)) (.int i) (.int j) (.int (g i j)) := rv_I hc fun _ => .int _
/-- == of ints, bools, texts, None -/
theorem rv_eqI {i j : Int} : Rv W rEq (.int i) (.int j) (.bl (decide (i = j))) := fun Hs H v u e r1 r2 Q q => by
  cases r1
  cases r2
  refine ⟨rfl, q _ _ Hs H (Stp.refl e) rfl ?_⟩
  have z : decide (V.int i = V.int j) = decide (i = j) := by simp
  rw [z]
  exact .bl _
theorem rv_neI {i j : Int} : Rv W rNe (.int i) (.int j) (.bl (!decide (i = j))) := fun Hs H v u e r1 r2 Q q => by
  cases r1
  cases r2
  refine ⟨rfl, q _ _ Hs H (Stp.refl e) rfl ?_⟩
  have z : decide (V.int i = V.int j) = decide (i = j) := by simp
  rw [z]
  exact .bl _
theorem rv_eqS {i j : Str} : Rv W rEq (.str i) (.str j) (.bl (decide (i = j))) := fun Hs H v u e r1 r2 Q q => by
  cases r1
  cases r2
  refine ⟨rfl, q _ _ Hs H (Stp.refl e) rfl ?_⟩
  have z : decide (V.str i = V.str j) = decide (i = j) := by simp
  rw [z]
  exact .bl _
theorem rv_neS {i j : Str} : Rv W rNe (.str i) (.str j) (.bl (!decide (i = j))) := fun Hs H v u e r1 r2 Q q => by
  cases r1
  cases r2
  refine ⟨rfl, q _ _ Hs H (Stp.refl e) rfl ?_⟩
  have z : decide (V.str i = V.str j) = decide (i = j) := by simp
  rw [z]
  exact .bl _
theorem rv_eqB {i j : Bool} : Rv W rEq (.bl i) (.bl j) (.bl (decide (i = j))) := fun Hs H v u e r1 r2 Q q => by
  cases r1
  cases r2
  refine ⟨rfl, q _ _ Hs H (Stp.refl e) rfl ?_⟩
  have z : decide (V.bl i = V.bl j) = decide (i = j) := by simp
  rw [z]
  exact .bl _
theorem rv_neB {i j : Bool} : Rv W rNe (.bl i) (.bl j) (.bl (!decide (i = j))) := fun Hs H v u e r1 r2 Q q => by
  cases r1
  cases r2
  refine ⟨rfl, q _ _ Hs H (Stp.refl e) rfl ?_⟩
  have z : decide (V.bl i = V.bl j) = decide (i = j) := by simp
  rw [z]
  exact .bl _
/-- is None, is not None -/
def isNon : Dv → Bool
  | .non => true
  | _ => false
theorem rp_non {c : Kc} {H : Hp} {v : V} {d : Dv} (r : Rp c H v d) : decide (v = .non) = isNon d := by
  cases r <;> rfl
theorem rv_isN : Rv W (fun x y H Q => y = .non ∧ Q (.bl (decide (x = .non))) H) a .non (.bl (isNon a)) := fun Hs H v u e r1 r2 Q q => by
  cases r2
  refine ⟨rfl, q _ _ Hs H (Stp.refl e) rfl ?_⟩
  rw [rp_non r1]
  exact .bl _
theorem rv_notN : Rv W (fun x y H Q => y = .non ∧ Q (.bl (!decide (x = .non))) H) a .non (.bl (!isNon a)) := fun Hs H v u e r1 r2 Q q => by
  cases r2
  refine ⟨rfl, q _ _ Hs H (Stp.refl e) rfl ?_⟩
  rw [rp_non r1]
  exact .bl _

/-! ### data that are compared as a whole -/
mutual
def toPy : Dv → PyData
  | .non => .none
  | .bl b => .bool b
  | .int i => .int i
  | .str x => .str x
  | .lst l => .list (toPys l)
  | .tup l => .tuple (toPys l)
  | _ => .none
def toPys : List Dv → List PyData
  | [] => []
  | d :: ds => toPy d :: toPys ds
end
mutual
def plain : Dv → Bool
  | .non => true
  | .bl _ => true
  | .int _ => true
  | .str _ => true
  | .lst l => plains l
  | .tup l => plains l
  | _ => false
def plains : List Dv → Bool
  | [] => true
  | d :: ds => plain d && plains ds
end
mutual
theorem Rp.dp {c : Kc} {H : Hp} : ∀ {v : V} {d : Dv}, Rp c H v d → plain d = true → Dp c.K H v (toPy d)
  | _, _, .non, _ => .non
  | _, _, .bl b, _ => .bl b
  | _, _, .int b, _ => .int b
  | _, _, .str b, _ => .str b
  | _, _, .lst h r, p => .lst (.inl (.inl h)) (RpAll.dp r p)
  | _, _, .tup h r, p => .tup h (RpAll.dp r p)
  | _, _, .dice _, p => nomatch p
  | _, _, .br _ _ _ _ _, p => nomatch p
  | _, _, .dct _, p => nomatch p
  | _, _, .scr _, p => nomatch p
theorem RpAll.dp {c : Kc} {H : Hp} : ∀ {vs : List V} {ds : List Dv}, RpAll c H vs ds → plains ds = true → DpAll c.K H vs (toPys ds)
  | _, _, .nil, _ => .nil
  | _, _, .cons h r, p => by
    have p' : (plain _ && plains _) = true := p
    rw [Bool.and_eq_true] at p'
    exact .cons (Rp.dp h p'.1) (RpAll.dp r p'.2)
end
theorem rv_eqD (h1 : plain a = true) (h2 : plain b = true) (h3 : SeqAt.shaped (toPy a) = true) (h4 : SeqAt.shaped (toPy b) = true) {k : Bool} (hk : PyData.eqv (toPy a) (toPy b) = k) : Rv W (rEqD W.c.K) a b (.bl k) := fun Hs H v u e r1 r2 Q q => by
  refine ⟨toPy a, toPy b, (r1.ex e).dp h1, (r2.ex e).dp h2, h3, h4, ?_⟩
  rw [hk]
  exact q _ _ Hs H (Stp.refl e) rfl (.bl k)
theorem rv_neD (h1 : plain a = true) (h2 : plain b = true) (h3 : SeqAt.shaped (toPy a) = true) (h4 : SeqAt.shaped (toPy b) = true) {k : Bool} (hk : PyData.eqv (toPy a) (toPy b) = k) : Rv W (rNeD W.c.K) a b (.bl (!k)) := fun Hs H v u e r1 r2 Q q => by
  refine ⟨toPy a, toPy b, (r1.ex e).dp h1, (r2.ex e).dp h2, h3, h4, ?_⟩
  rw [hk]
  exact q _ _ Hs H (Stp.refl e) rfl (.bl _)
/-- words: tuples of ints -/
abbrev wd (w : List Int) : Dv := .tup (w.map Dv.int)
theorem toPys_ints : ∀ w : List Int, toPys (w.map Dv.int) = w.map PyData.int
  | [] => by simp [toPys]
  | i :: w => by
    have ih := toPys_ints w
    simp [toPys, toPy, ih]
theorem plains_ints : ∀ w : List Int, plains (w.map Dv.int) = true
  | [] => by simp [plains]
  | i :: w => by
    have ih := plains_ints w
    simp [plains, plain, ih]
theorem plain_wd (w : List Int) : plain (wd w) = true := by
  unfold wd plain
  exact plains_ints w
theorem toPy_wd (w : List Int) : toPy (wd w) = .tuple (w.map PyData.int) := by
  unfold wd toPy
  rw [toPys_ints]
theorem lay_ints : ∀ w : List Int, PyData.canLayAll0 (w.map PyData.int) = true
  | [] => by simp [PyData.canLayAll0]
  | i :: w => by
    have ih := lay_ints w
    simp [PyData.canLayAll0, PyData.canLay0, ih]
theorem depth_ints : ∀ w : List Int, PyData.depthAll (w.map PyData.int) = 0
  | [] => by simp [PyData.depthAll]
  | i :: w => by
    have ih := depth_ints w
    simp [PyData.depthAll, PyData.depth, ih]
end
end KD
set_option Elab.async false
set_option linter.all false
set_option maxRecDepth 100000
set_option maxHeartbeats 4000000
namespace KD
open PySem PySem.Spec PyProof.Rows L2
open Evl (Ex Ex.refl Ex.trans Ex.new Ex.mut ex_l ex_t fresh_back)

/-! ### words compared -/
theorem shaped_wd (w : List Int) : SeqAt.shaped (toPy (wd w)) = true := by
  rw [toPy_wd]
  show (PyData.canLay0 (.tuple (w.map PyData.int)) && decide (PyData.depth (.tuple (w.map PyData.int)) ≤ 64)) = true
  rw [Bool.and_eq_true]
  refine ⟨?_, decide_eq_true ?_⟩
  · simp only [PyData.canLay0]
    exact lay_ints w
  · simp only [PyData.depth]
    rw [depth_ints]
    decide
theorem eqvAll_ints : ∀ w u : List Int, PyData.eqvAll (w.map PyData.int) (u.map PyData.int) = decide (w = u)
  | [], [] => by simp [PyData.eqvAll]
  | [], _ :: _ => by simp [PyData.eqvAll]
  | _ :: _, [] => by simp [PyData.eqvAll]
  | i :: w, j :: u => by
    have ih := eqvAll_ints w u
    simp only [List.map, PyData.eqvAll, PyData.eqv, ih]
    by_cases h : i = j
    · subst h
      simp
    · simp [h]
theorem eqv_wd (w u : List Int) : PyData.eqv (toPy (wd w)) (toPy (wd u)) = decide (w = u) := by
  rw [toPy_wd, toPy_wd]
  show PyData.eqv (.tuple (w.map PyData.int)) (.tuple (u.map PyData.int)) = _
  simp only [PyData.eqv]
  exact eqvAll_ints w u
/-- lists of words -/
theorem toPys_wds : ∀ l : List (List Int), toPys (l.map wd) = l.map fun w => PyData.tuple (w.map PyData.int)
  | [] => by simp [toPys]
  | w :: l => by
    have ih := toPys_wds l
    rw [List.map_cons, toPys, ih, toPy_wd]
    rfl
theorem plains_wds : ∀ l : List (List Int), plains (l.map wd) = true
  | [] => by simp [plains]
  | w :: l => by
    have ih := plains_wds l
    rw [List.map_cons, plains, ih, plain_wd]
    rfl
theorem lay_wds : ∀ l : List (List Int), PyData.canLayAll0 (l.map fun w => PyData.tuple (w.map PyData.int)) = true
  | [] => by simp [PyData.canLayAll0]
  | w :: l => by
    have ih := lay_wds l
    simp only [List.map, PyData.canLayAll0, PyData.canLay0, ih, lay_ints w, Bool.and_self]
theorem depth_wds : ∀ l : List (List Int), PyData.depthAll (l.map fun w => PyData.tuple (w.map PyData.int)) ≤ 1
  | [] => by simp [PyData.depthAll]
  | w :: l => by
    have ih := depth_wds l
    simp only [List.map, PyData.depthAll, PyData.depth, depth_ints w]
    omega
theorem eqvAll_wds : ∀ l m : List (List Int), PyData.eqvAll (l.map fun w => PyData.tuple (w.map PyData.int)) (m.map fun w => PyData.tuple (w.map PyData.int)) = decide (l = m)
  | [], [] => by simp [PyData.eqvAll]
  | [], _ :: _ => by simp [PyData.eqvAll]
  | _ :: _, [] => by simp [PyData.eqvAll]
  | w :: l, u :: m => by
    have ih := eqvAll_wds l m
    simp only [List.map, PyData.eqvAll, PyData.eqv, ih, eqvAll_ints]
    by_cases h : w = u
    · subst h
      simp
    · simp [h]
abbrev wds (l : List (List Int)) : Dv := .lst (l.map wd)
theorem plain_wds (l : List (List Int)) : plain (wds l) = true := by
  unfold wds plain
  exact plains_wds l
theorem toPy_wds (l : List (List Int)) : toPy (wds l) = .list (l.map fun w => PyData.tuple (w.map PyData.int)) := by
  unfold wds toPy
  rw [toPys_wds]
theorem shaped_wds (l : List (List Int)) : SeqAt.shaped (toPy (wds l)) = true := by
  rw [toPy_wds]
  show (PyData.canLay0 (.list _) && decide (PyData.depth (.list _) ≤ 64)) = true
  rw [Bool.and_eq_true]
  refine ⟨?_, decide_eq_true ?_⟩
  · simp only [PyData.canLay0]
    exact lay_wds l
  · simp only [PyData.depth]
    have := depth_wds l
    omega
theorem eqv_wds (l m : List (List Int)) : PyData.eqv (toPy (wds l)) (toPy (wds m)) = decide (l = m) := by
  rw [toPy_wds, toPy_wds]
  simp only [PyData.eqv]
  exact eqvAll_wds l m
abbrev il (w : List Int) : Dv := .lst (w.map Dv.int)
theorem plain_il (w : List Int) : plain (il w) = true := by
  unfold il plain
  exact plains_ints w
theorem toPy_il (w : List Int) : toPy (il w) = .list (w.map PyData.int) := by
  unfold il toPy
  rw [toPys_ints]
theorem shaped_il (w : List Int) : SeqAt.shaped (toPy (il w)) = true := by
  rw [toPy_il]
  show (PyData.canLay0 (.list (w.map PyData.int)) && decide (PyData.depth (.list (w.map PyData.int)) ≤ 64)) = true
  rw [Bool.and_eq_true]
  refine ⟨?_, decide_eq_true ?_⟩
  · simp only [PyData.canLay0]
    exact lay_ints w
  · simp only [PyData.depth]
    rw [depth_ints]
    decide
theorem eqv_il (w u : List Int) : PyData.eqv (toPy (il w)) (toPy (il u)) = decide (w = u) := by
  rw [toPy_il, toPy_il]
  simp only [PyData.eqv]
  exact eqvAll_ints w u

section
variable {W : Wc} {δ δ' : List Sl} {ta tb tc te : TE} {t u : TT} {a b d e : Dv} {P Pa Pb : Dv → Prop} {r r' : R2}
theorem rv_eqW {w u : List Int} : Rv W (rEqD W.c.K) (wd w) (wd u) (.bl (decide (w = u))) := rv_eqD (plain_wd w) (plain_wd u) (shaped_wd w) (shaped_wd u) (eqv_wd w u)
theorem rv_neW {w u : List Int} : Rv W (rNeD W.c.K) (wd w) (wd u) (.bl (!decide (w = u))) := rv_neD (plain_wd w) (plain_wd u) (shaped_wd w) (shaped_wd u) (eqv_wd w u)
theorem rv_eqI' {w u : List Int} : Rv W (rEqD W.c.K) (il w) (il u) (.bl (decide (w = u))) := rv_eqD (plain_il w) (plain_il u) (shaped_il w) (shaped_il u) (eqv_il w u)
theorem rv_neI' {w u : List Int} : Rv W (rNeD W.c.K) (il w) (il u) (.bl (!decide (w = u))) := rv_neD (plain_il w) (plain_il u) (shaped_il w) (shaped_il u) (eqv_il w u)
theorem rv_eqL {w u : List (List Int)} : Rv W (rEqD W.c.K) (wds w) (wds u) (.bl (decide (w = u))) := rv_eqD (plain_wds w) (plain_wds u) (shaped_wds w) (shaped_wds u) (eqv_wds w u)
theorem rv_neL {w u : List (List Int)} : Rv W (rNeD W.c.K) (wds w) (wds u) (.bl (!decide (w = u))) := rv_neD (plain_wds w) (plain_wds u) (shaped_wds w) (shaped_wds u) (eqv_wds w u)
/-! ### subscripts -/
theorem rv_ixL {l : List Dv} {i : Int} (h : atI l i = some d) : Rv W (rIxL W.c.K) (.lst l) (.int i) d := fun Hs H v u ex r1 r2 Q q => by
  cases r2
  cases r1 with
  | lst ha r =>
    rename_i a xs
    obtain ⟨j, hj, hd, _⟩ := atI_get h
    obtain ⟨v, ev, rv⟩ := r.get hd
    have e2 : atI xs i = some v := by
      unfold atI at h ⊢
      rw [r.length]
      cases z : ixN l.length i with
      | none => rw [z] at h; cases h
      | some j' =>
        rw [z] at h
        have h' : l[j']? = some d := h
        have : j' = j := by
          have q1 := (ixN_seq z).1
          rw [hj] at q1
          exact (Option.some.inj q1).symm
        subst this
        exact ev
    exact ⟨a, xs, i, v, rfl, rfl, .inl (.inl (ex _ _ ha)), e2, q _ _ Hs H (Stp.refl ex) rfl rv⟩
theorem rv_ixT {l : List Dv} {i : Int} (h : atI l i = some d) : Rv W (rIxT W.c.K) (.tup l) (.int i) d := fun Hs H v u ex r1 r2 Q q => by
  cases r2
  cases r1 with
  | tup ha r =>
    rename_i a xs
    obtain ⟨j, hj, hd, _⟩ := atI_get h
    obtain ⟨v, ev, rv⟩ := r.get hd
    have e2 : atI xs i = some v := by
      unfold atI at h ⊢
      rw [r.length]
      cases z : ixN l.length i with
      | none => rw [z] at h; cases h
      | some j' =>
        rw [z] at h
        have h' : l[j']? = some d := h
        have : j' = j := by
          have q1 := (ixN_seq z).1
          rw [hj] at q1
          exact (Option.some.inj q1).symm
        subst this
        exact ev
    exact ⟨a, xs, i, v, rfl, rfl, ex_t ex ha, e2, q _ _ Hs H (Stp.refl ex) rfl rv⟩
theorem atI_map {α β : Type} (f : α → β) {l : List α} {i : Int} {x : α} (h : atI l i = some x) : atI (l.map f) i = some (f x) := by
  unfold atI at h ⊢
  rw [List.length_map]
  cases z : ixN l.length i with
  | none => rw [z] at h; cases h
  | some j =>
    rw [z] at h
    have h' : l[j]? = some x := h
    show (l.map f)[j]? = some (f x)
    rw [List.getElem?_map, h']
    rfl
theorem rv_ixW {w : List Int} {i x : Int} (h : atI w i = some x) : Rv W (rIxT W.c.K) (wd w) (.int i) (.int x) := rv_ixT (atI_map Dv.int h)
theorem rv_ixI {w : List Int} {i x : Int} (h : atI w i = some x) : Rv W (rIxL W.c.K) (il w) (.int i) (.int x) := rv_ixL (atI_map Dv.int h)
/-- an item of the list of one's own -/
theorem ev_ixOwn {j : Nat} {ds : List Dv} {i : Int} (hj : δ[j]? = some (.own ds)) (hb : Ev W tb δ (.int i)) (h : atI ds i = some d) : Ev W (tOp (rIxL W.c.K) (tVar j) tb) δ d := fun σ Hs H s Q q => by
  obtain ⟨P, xs, e, _⟩ := s.getOwn hj
  refine ⟨_, e, hb.run s fun v d' Hs1 H1 st1 s1 pa ra => ?_⟩
  subst pa
  cases ra
  obtain ⟨P', xs, e', _, _, hH, r⟩ := s1.getOwn hj
  rw [e] at e'
  cases e'
  obtain ⟨k, hk, hd, _⟩ := atI_get h
  obtain ⟨v, ev, rv⟩ := r.get hd
  have e2 : atI xs i = some v := by
    unfold atI at h ⊢
    rw [r.length]
    cases z : ixN ds.length i with
    | none => rw [z] at h; cases h
    | some j' =>
      rw [z] at h
      have : j' = k := by
        have q1 := (ixN_seq z).1
        rw [hk] at q1
        exact (Option.some.inj q1).symm
      subst this
      exact ev
  exact ⟨P, xs, i, v, rfl, rfl, .inl (.inl hH), e2, q _ _ Hs1 H1 st1 rfl rv⟩

/-! ### order, in -/
theorem rv_ltW {w u : List Int} : Rv W (rLtT W.c.K) (wd w) (wd u) (.bl (HT.lexLt w u)) := fun Hs H v z ex r1 r2 Q q => by
  cases r1 with
  | tup h1 r1 =>
    cases r2 with
    | tup h2 r2 =>
      have e1 := rp_ints r1
      have e2 := rp_ints r2
      subst e1
      subst e2
      exact ⟨_, _, w, u, rfl, rfl, ex_t ex h1, ex_t ex h2, q _ _ Hs H (Stp.refl ex) rfl (.bl _)⟩
/-- an int in a list or a tuple of ints -/
theorem inV_ints (i : Int) : ∀ w : List Int, inV (.int i) (w.map V.int) = w.contains i
  | [] => rfl
  | j :: w => by
    have ih := inV_ints i w
    unfold inV at ih ⊢
    rw [List.map_cons, List.any_cons, ih, List.contains_cons]
    have e : eqV (.int j) (.int i) = (i == j) := by
      unfold eqV
      exact BEq.comm
    rw [e]
theorem flat_ints : ∀ w : List Int, (w.map V.int).all flatV = true
  | [] => rfl
  | _ :: w => by
    rw [List.map_cons, List.all_cons, flat_ints w]
    rfl
theorem rv_inI {i : Int} {w : List Int} : Rv W (rIn W.c.K false) (.int i) (il w) (.bl (w.contains i)) := fun Hs H v z ex r1 r2 Q q => by
  cases r1
  cases r2 with
  | lst h2 r2 =>
    have e2 := rp_ints r2
    subst e2
    refine ⟨_, _, rfl, .inl (.inl (.inl (ex _ _ h2))), rfl, flat_ints w, ?_⟩
    show Q (.bl (inV (.int i) (w.map V.int))) H
    rw [inV_ints]
    exact q _ _ Hs H (Stp.refl ex) rfl (.bl _)
theorem rv_niI {i : Int} {w : List Int} : Rv W (rIn W.c.K true) (.int i) (il w) (.bl (!w.contains i)) := fun Hs H v z ex r1 r2 Q q => by
  cases r1
  cases r2 with
  | lst h2 r2 =>
    have e2 := rp_ints r2
    subst e2
    refine ⟨_, _, rfl, .inl (.inl (.inl (ex _ _ h2))), rfl, flat_ints w, ?_⟩
    show Q (.bl (!inV (.int i) (w.map V.int))) H
    rw [inV_ints]
    exact q _ _ Hs H (Stp.refl ex) rfl (.bl _)
theorem rv_inT {i : Int} {w : List Int} : Rv W (rIn W.c.K false) (.int i) (wd w) (.bl (w.contains i)) := fun Hs H v z ex r1 r2 Q q => by
  cases r1
  cases r2 with
  | tup h2 r2 =>
    have e2 := rp_ints r2
    subst e2
    refine ⟨_, _, rfl, .inr (ex_t ex h2), rfl, flat_ints w, ?_⟩
    show Q (.bl (inV (.int i) (w.map V.int))) H
    rw [inV_ints]
    exact q _ _ Hs H (Stp.refl ex) rfl (.bl _)
theorem rv_niT {i : Int} {w : List Int} : Rv W (rIn W.c.K true) (.int i) (wd w) (.bl (!w.contains i)) := fun Hs H v z ex r1 r2 Q q => by
  cases r1
  cases r2 with
  | tup h2 r2 =>
    have e2 := rp_ints r2
    subst e2
    refine ⟨_, _, rfl, .inr (ex_t ex h2), rfl, flat_ints w, ?_⟩
    show Q (.bl (!inV (.int i) (w.map V.int))) H
    rw [inV_ints]
    exact q _ _ Hs H (Stp.refl ex) rfl (.bl _)
theorem any_wds (w : List Int) : ∀ l : List (List Int), ((l.map fun w => PyData.tuple (w.map PyData.int)).any fun z => PyData.eqv z (toPy (wd w))) = l.contains w
  | [] => rfl
  | u :: l => by
    have ih := any_wds w l
    rw [List.map_cons, List.any_cons, ih, List.contains_cons]
    have e := eqv_wd u w
    rw [toPy_wd u] at e
    rw [e]
    congr 1
    by_cases h : w = u
    · subst h; simp
    · have h' : ¬ u = w := fun z => h z.symm
      simp [h, h']
/-- a word in a list of words -/
theorem rv_inW {w : List Int} {l : List (List Int)} : Rv W (rInD W.c.K) (wd w) (wds l) (.bl (l.contains w)) := fun Hs H v z ex r1 r2 Q q => by
  refine ⟨toPy (wd w), l.map fun w => PyData.tuple (w.map PyData.int), (r1.ex ex).dp (plain_wd w), ?_, shaped_wd w, ?_, ?_⟩
  · have := (r2.ex ex).dp (plain_wds l)
    rw [toPy_wds] at this
    exact this
  · have := shaped_wds l
    rw [toPy_wds] at this
    exact this
  · rw [any_wds]
    exact q _ _ Hs H (Stp.refl ex) rfl (.bl _)

/-! ### + and * of sequences, slices -/
theorem rv_catT {l m : List Dv} (hl : l.length + m.length ≤ 1000) : Rv W (rCatA W.c.K) (.tup l) (.tup m) (.tup (l ++ m)) := fun Hs H v z ex r1 r2 Q q => by
  cases r1 with
  | tup h1 r1 =>
    cases r2 with
    | tup h2 r2 =>
      rename_i a1 xs a2 ys
      have l1 := r1.length
      have l2 := r2.length
      refine ⟨a1, a2, xs, ys, rfl, rfl, ex_t ex h1, ex_t ex h2, ?_, fun e => ?_, fun _ e => ?_, fun _ _ p hp => ?_⟩
      · exact Nat.le_trans (by omega : _ ≤ 1000) (by decide)
      · subst e
        cases r1
        exact q _ _ Hs H (Stp.refl ex) rfl (.tup h2 r2)
      · subst e
        cases r2
        rw [List.append_nil] at q
        exact q _ _ Hs H (Stp.refl ex) rfl (.tup h1 r1)
      · exact q _ _ _ _ (Stp.new ex hp) rfl (.tup (.inl (.inl upd_same)) ((r1.append r2).ex (Ex.new (fresh_back ex hp))))
theorem rv_cat {l m : List Dv} (hl : l.length + m.length ≤ 10000) : Rv W rCat (.lst l) (.lst m) (.lst (l ++ m)) := fun Hs H v z ex r1 r2 Q q => by
  cases r1 with
  | lst h1 r1 =>
    cases r2 with
    | lst h2 r2 =>
      rename_i a1 xs a2 ys
      have l1 := r1.length
      have l2 := r2.length
      refine ⟨a1, a2, xs, ys, rfl, rfl, ex _ _ h1, ex _ _ h2, ?_, fun p hp => ?_⟩
      · exact Nat.le_trans (by omega : _ ≤ 10000) (by decide)
      · exact q _ _ _ _ (Stp.new ex hp) rfl (.lst upd_same ((r1.append r2).ex (Ex.new (fresh_back ex hp))))
theorem rv_catW {w u : List Int} (hl : w.length + u.length ≤ 1000) : Rv W (rCatA W.c.K) (wd w) (wd u) (wd (w ++ u)) := by
  have h := rv_catT (W := W) (l := w.map Dv.int) (m := u.map Dv.int) (by simpa using hl)
  rw [← List.map_append] at h
  exact h
theorem rv_catI {w u : List Int} (hl : w.length + u.length ≤ 10000) : Rv W rCat (il w) (il u) (il (w ++ u)) := by
  have h := rv_cat (W := W) (l := w.map Dv.int) (m := u.map Dv.int) (by simpa using hl)
  rw [← List.map_append] at h
  exact h
theorem rep_map {l : List V} : ∀ {k : Nat} {ds : List Dv} {c : Kc} {H : Hp}, RpAll c H l ds → RpAll c H (List.replicate k l).flatten (List.replicate k ds).flatten
  | 0, _, _, _, _ => .nil
  | k + 1, ds, c, H, r => by
    rw [List.replicate_succ, List.replicate_succ, List.flatten_cons, List.flatten_cons]
    exact r.append (rep_map r)
theorem len_rep {α : Type} (l : List α) : ∀ k : Nat, (List.replicate k l).flatten.length = k * l.length
  | 0 => by simp
  | k + 1 => by
    rw [List.replicate_succ, List.flatten_cons, List.length_append, len_rep l k, Nat.succ_mul]
    omega
theorem flat_one {α : Type} (x : α) : ∀ k : Nat, (List.replicate k [x]).flatten = List.replicate k x
  | 0 => rfl
  | k + 1 => by
    rw [List.replicate_succ, List.flatten_cons, flat_one x k, List.replicate_succ]
    rfl
/-- [x] * k -/
theorem rv_rep1 {x : Dv} {k : Int} (h0 : 0 ≤ k) (h1 : k ≤ 10000) : Rv W rRep (.lst [x]) (.int k) (.lst (List.replicate k.toNat x)) := fun Hs H v z ex r1 r2 Q q => by
  cases r2
  cases r1 with
  | lst h1 r1 =>
    rename_i a1 xs
    have l1 := r1.length
    refine ⟨a1, k, xs, rfl, rfl, ex _ _ h1, by omega, by omega, ?_, fun p hp => ?_⟩
    · rw [l1]
      exact Nat.le_trans (by simp; omega : _ ≤ 10000) (by decide)
    · have rr := rep_map (k := k.toNat) r1
      rw [flat_one x k.toNat] at rr
      exact q _ _ _ _ (Stp.new ex hp) rfl (.lst upd_same (rr.ex (Ex.new (fresh_back ex hp))))
/-- (x,) * k -/
theorem rv_repT1 {x : Dv} {k : Int} (h0 : 2 ≤ k) (h1 : k ≤ 1000) : Rv W (rRepT W.c.K) (.tup [x]) (.int k) (.tup (List.replicate k.toNat x)) := fun Hs H v z ex r1 r2 Q q => by
  cases r2
  cases r1 with
  | tup hx r1 =>
    rename_i a1 xs
    have l1 := r1.length
    refine ⟨a1, k, xs, rfl, rfl, ex_t ex hx, ?_, h0, h1, ?_, fun p hp => ?_⟩
    · intro z
      subst z
      simp at l1
    · rw [l1]
      simp
    · have rr := rep_map (k := k.toNat) r1
      rw [flat_one x k.toNat] at rr
      exact q _ _ _ _ (Stp.new ex hp) rfl (.tup (.inl (.inl upd_same)) (rr.ex (Ex.new (fresh_back ex hp))))
/-- parts of a slice -/
def OP (W : Wc) (to : TO) (δ : List Sl) (o : Option Int) : Prop := ∀ (σ : L2.St) (Hs H : Hp), SD W δ σ Hs H → ∀ Q : Option Int → Hp → Prop, (∀ Hs' H', Stp Hs H Hs' H' → Q o H') → to σ H Q
theorem op_no : OP W tNoPart δ none := fun σ Hs H s Q q => q Hs H (Stp.refl s.sub)
theorem op_so {i : Int} (h : Ev W te δ (.int i)) : OP W (tPart te) δ (some i) := fun σ Hs H s Q q => h.run s fun v d Hs1 H1 st1 s1 pa ra => by
  subst pa
  cases ra
  exact ⟨i, rfl, q Hs1 H1 st1⟩
def cutD (xs : List Dv) (lo hi : Option Int) : List Dv := (xs.drop (HT.sIx xs.length 0 lo)).take (HT.sIx xs.length xs.length hi - HT.sIx xs.length 0 lo)
theorem cut_rp {c : Kc} {H : Hp} {vs : List V} {ds : List Dv} (r : RpAll c H vs ds) (lo hi : Option Int) : RpAll c H (cutV vs lo hi) (cutD ds lo hi) := by
  unfold cutV cutD
  rw [r.length]
  exact (r.drop _).take _
theorem ev_sliceT {l : List Dv} {lo hi : Option Int} {tl th : TO} (h : Ev W te δ (.tup l)) (hl : OP W tl δ lo) (hh : OP W th δ hi) : Ev W (tSl (rSlA W.c.K) te tl th) δ (.tup (cutD l lo hi)) := fun σ Hs H s Q q =>
  h.run s fun v d Hs1 H1 st1 s1 pa ra => by
    subst pa
    refine hl σ Hs1 H1 s1 _ fun Hs2 H2 st2 => hh σ Hs2 H2 (s1.step st2) _ fun Hs3 H3 st3 => ?_
    cases ra with
    | tup ha r =>
      rename_i a xs
      have e := (st1.trans st2).trans st3
      have ha' : SqT W.c.K Hs3 a xs := ex_t (st2.trans st3).ex1 ha
      have r' : RpAll W.c Hs3 xs l := r.ex (st2.trans st3).ex1
      refine ⟨a, xs, rfl, ex_t st3.sub ha', fun hw => ?_, fun hw p hp => ?_⟩
      · refine q _ _ Hs3 H3 e rfl (.tup ha' ?_)
        have : cutD l lo hi = l := by
          unfold cutD
          rw [← r'.length, hw.1, hw.2, r'.length]
          simp
        rw [this]
        exact r'
      · exact q _ _ _ _ (e.trans (Stp.new st3.sub hp)) rfl (.tup (.inl (.inl upd_same)) ((cut_rp r' lo hi).ex (Ex.new (fresh_back st3.sub hp))))
theorem ev_sliceL {l : List Dv} {lo hi : Option Int} {tl th : TO} (h : Ev W te δ (.lst l)) (hl : OP W tl δ lo) (hh : OP W th δ hi) : Ev W (tSl (rSlL W.c.K) te tl th) δ (.lst (cutD l lo hi)) := fun σ Hs H s Q q =>
  h.run s fun v d Hs1 H1 st1 s1 pa ra => by
    subst pa
    refine hl σ Hs1 H1 s1 _ fun Hs2 H2 st2 => hh σ Hs2 H2 (s1.step st2) _ fun Hs3 H3 st3 => ?_
    cases ra with
    | lst ha r =>
      rename_i a xs
      have e := (st1.trans st2).trans st3
      have ha' : Hs3 a = some (.lst xs) := (st2.trans st3).ex1 _ _ ha
      have r' : RpAll W.c Hs3 xs l := r.ex (st2.trans st3).ex1
      refine ⟨a, xs, rfl, .inl (.inl (st3.sub _ _ ha')), fun p hp => ?_⟩
      exact q _ _ _ _ (e.trans (Stp.new st3.sub hp)) rfl (.lst upd_same ((cut_rp r' lo hi).ex (Ex.new (fresh_back st3.sub hp))))
/-- a cut of plain data -/
def cut {α : Type} (xs : List α) (lo hi : Option Int) : List α := (xs.drop (HT.sIx xs.length 0 lo)).take (HT.sIx xs.length xs.length hi - HT.sIx xs.length 0 lo)
theorem cutD_map {α : Type} (f : α → Dv) (xs : List α) (lo hi : Option Int) : cutD (xs.map f) lo hi = (cut xs lo hi).map f := by
  unfold cutD cut
  rw [List.length_map, ← List.map_drop, ← List.map_take]
theorem cut_to {α : Type} (xs : List α) (n : Nat) : cut xs none (some (n : Int)) = xs.take n := by
  unfold cut
  rw [HT.sIx_none, HT.sIx_nat]
  simp [List.take_eq_take_iff]
theorem cut_from {α : Type} (xs : List α) (n : Nat) : cut xs (some (n : Int)) none = xs.drop n := by
  unfold cut
  rw [HT.sIx_none, HT.sIx_nat, List.take_of_length_le (by simp)]
  by_cases h : n ≤ xs.length
  · rw [Nat.min_eq_left h]
  · rw [Nat.min_eq_right (by omega), List.drop_eq_nil_of_le (Nat.le_refl _), List.drop_eq_nil_of_le (by omega)]
theorem cut_last {α : Type} (xs : List α) : cut xs none (some (-1)) = xs.dropLast := by
  unfold cut
  rw [HT.sIx_none]
  have h : HT.sIx xs.length xs.length (some (-1)) = xs.length - 1 := by
    unfold HT.sIx
    simp
    omega
  rw [h, List.dropLast_eq_take]
  simp
theorem ev_sliceW {w : List Int} {lo hi : Option Int} {tl th : TO} (h : Ev W te δ (wd w)) (hl : OP W tl δ lo) (hh : OP W th δ hi) : Ev W (tSl (rSlA W.c.K) te tl th) δ (wd (cut w lo hi)) := ev_eq (ev_sliceT h hl hh) (by rw [cutD_map])
theorem ev_sliceI {w : List Int} {lo hi : Option Int} {tl th : TO} (h : Ev W te δ (il w)) (hl : OP W tl δ lo) (hh : OP W th δ hi) : Ev W (tSl (rSlL W.c.K) te tl th) δ (il (cut w lo hi)) := ev_eq (ev_sliceL h hl hh) (by rw [cutD_map])
theorem ev_revL {l : List Dv} (h : Ev W te δ (.lst l)) : Ev W (tRevL W.c.K te) δ (.lst l.reverse) := fun σ Hs H s Q q =>
  h.run s fun v d Hs1 H1 st1 s1 pa ra => by
    subst pa
    cases ra with
    | lst ha r =>
      exact ⟨_, _, rfl, .inl (.inl (st1.sub _ _ ha)), fun p hp => q _ _ _ _ (st1.trans (Stp.new st1.sub hp)) rfl (.lst upd_same (r.reverse.ex (Ex.new (fresh_back st1.sub hp))))⟩
end
end KD
set_option Elab.async false
set_option linter.all false
set_option maxRecDepth 100000
set_option maxHeartbeats 4000000
namespace KD
open PySem PySem.Spec PyProof.Rows L2
open Evl (Ex Ex.refl Ex.trans Ex.new Ex.mut ex_l ex_t fresh_back)

section
variable {W : Wc} {δ δ' : List Sl} {ta tb tc te : TE} {t u : TT} {a b d e : Dv} {P Pa Pb : Dv → Prop} {r r' : R2}
/-! ### tests -/
theorem et_test {k : Bool} (h : Ev W te δ (.bl k)) : Et W (tTest te) δ k := fun σ Hs H s Q q => h.run s fun v d Hs1 H1 st1 s1 pa ra => by
  subst pa
  cases ra
  exact ⟨k, rfl, q k Hs1 H1 st1 rfl⟩
theorem et_B {k : Bool} (h : Ev W te δ (.bl k)) : Et W (tB te) δ k := fun σ Hs H s Q q => h.run s fun v d Hs1 H1 st1 s1 pa ra => by
  subst pa
  cases ra
  exact ⟨k, rfl, q k Hs1 H1 st1 rfl⟩
theorem tp_test {P : Bool → Prop} (h : EP W te δ fun d => ∃ k, d = .bl k ∧ P k) : TP W (tTest te) δ P := fun σ Hs H s Q q => h.run s fun v d Hs1 H1 st1 s1 pa ra => by
  obtain ⟨k, rfl, pk⟩ := pa
  cases ra
  exact ⟨k, rfl, q k Hs1 H1 st1 pk⟩
theorem et_and {k m : Bool} (h1 : Et W t δ k) (h2 : k = true → Et W u δ m) : Et W (tAnd t u) δ (k && m) := fun σ Hs H s Q q => h1.run s fun b Hs1 H1 st1 s1 pa => by
  subst pa
  cases b with
  | true => exact (h2 rfl).run s1 fun b Hs2 H2 st2 s2 pb => by subst pb; exact q _ Hs2 H2 (st1.trans st2) rfl
  | false => exact q _ Hs1 H1 st1 rfl
theorem et_or {k m : Bool} (h1 : Et W t δ k) (h2 : k = false → Et W u δ m) : Et W (tOr t u) δ (k || m) := fun σ Hs H s Q q => h1.run s fun b Hs1 H1 st1 s1 pa => by
  subst pa
  cases b with
  | false => exact (h2 rfl).run s1 fun b Hs2 H2 st2 s2 pb => by subst pb; exact q _ Hs2 H2 (st1.trans st2) rfl
  | true => exact q _ Hs1 H1 st1 rfl
theorem tp_and {P1 P2 P : Bool → Prop} (h1 : TP W t δ P1) (h2 : P1 true → TP W u δ P2) (k1 : P1 false → P false) (k2 : ∀ b, P2 b → P b) : TP W (tAnd t u) δ P := fun σ Hs H s Q q => h1.run s fun b Hs1 H1 st1 s1 pa => by
  cases b with
  | true => exact (h2 pa).run s1 fun b Hs2 H2 st2 s2 pb => q _ Hs2 H2 (st1.trans st2) (k2 b pb)
  | false => exact q _ Hs1 H1 st1 (k1 pa)
theorem et_not {k : Bool} (h : Et W t δ k) : Et W (tNot t) δ (!k) := fun σ Hs H s Q q => h.run s fun b Hs1 H1 st1 s1 pa => by
  subst pa
  exact q _ Hs1 H1 st1 rfl
theorem et_eq {k m : Bool} (h : Et W t δ k) (e : k = m) : Et W t δ m := e ▸ h
theorem et_yes : Et W tYes δ true := fun σ Hs H s Q q => q true Hs H (Stp.refl s.sub) rfl
theorem TP.of {k : Bool} {P : Bool → Prop} (h : Et W t δ k) (p : P k) : TP W t δ P := fun σ Hs H s Q q => h σ Hs H s Q fun b Hs' H' st e => q b Hs' H' st (e ▸ p)
theorem ev_andV {k m : Bool} (h1 : Ev W ta δ (.bl k)) (h2 : k = true → Ev W tb δ (.bl m)) : Ev W (tAndV ta tb) δ (.bl (k && m)) := fun σ Hs H s Q q => h1.run s fun v d Hs1 H1 st1 s1 pa ra => by
  subst pa
  cases ra
  refine ⟨k, rfl, ?_⟩
  cases k with
  | true => exact (h2 rfl).run s1 fun v d Hs2 H2 st2 s2 pb rb => q _ d Hs2 H2 (st1.trans st2) pb rb
  | false => exact q _ _ Hs1 H1 st1 rfl (.bl false)
theorem ev_orV {k m : Bool} (h1 : Ev W ta δ (.bl k)) (h2 : k = false → Ev W tb δ (.bl m)) : Ev W (tOrV ta tb) δ (.bl (k || m)) := fun σ Hs H s Q q => h1.run s fun v d Hs1 H1 st1 s1 pa ra => by
  subst pa
  cases ra
  refine ⟨k, rfl, ?_⟩
  cases k with
  | false => exact (h2 rfl).run s1 fun v d Hs2 H2 st2 s2 pb rb => q _ d Hs2 H2 (st1.trans st2) pb rb
  | true => exact q _ _ Hs1 H1 st1 rfl (.bl true)
theorem ev_notV {k : Bool} (h1 : Ev W ta δ (.bl k)) : Ev W (tNotV ta) δ (.bl (!k)) := fun σ Hs H s Q q => h1.run s fun v d Hs1 H1 st1 s1 pa ra => by
  subst pa
  cases ra
  exact ⟨k, rfl, q _ _ Hs1 H1 st1 rfl (.bl _)⟩
theorem ep_notV {P : Bool → Prop} (h1 : EP W ta δ fun d => ∃ k, d = .bl k ∧ P (!k)) : EP W (tNotV ta) δ fun d => ∃ k, d = .bl k ∧ P k := fun σ Hs H s Q q => h1.run s fun v d Hs1 H1 st1 s1 pa ra => by
  obtain ⟨k, rfl, pk⟩ := pa
  cases ra
  exact ⟨k, rfl, q _ _ Hs1 H1 st1 ⟨_, rfl, pk⟩ (.bl _)⟩
theorem ep_if {Pt : Bool → Prop} (h : TP W t δ Pt) (h1 : Pt true → EP W ta δ P) (h2 : Pt false → EP W tb δ P) : EP W (tIf t ta tb) δ P := fun σ Hs H s Q q => h.run s fun k Hs1 H1 st1 s1 pa => by
  cases k with
  | true => exact (h1 pa).run s1 fun v d Hs2 H2 st2 s2 pb rb => q _ d Hs2 H2 (st1.trans st2) pb rb
  | false => exact (h2 pa).run s1 fun v d Hs2 H2 st2 s2 pb rb => q _ d Hs2 H2 (st1.trans st2) pb rb
theorem ev_if {k : Bool} (h : Et W t δ k) (h1 : k = true → Ev W ta δ a) (h2 : k = false → Ev W tb δ b) : Ev W (tIf t ta tb) δ (if k = true then a else b) := ep_if h (fun e => by
  have e' : true = k := e
  subst e'
  exact h1 rfl) (fun e => by
  have e' : false = k := e
  subst e'
  exact h2 rfl)
theorem ev_ifT (h : Et W t δ true) (h1 : EP W ta δ P) : EP W (tIf t ta tb) δ P := ep_if h (fun _ => h1) (fun e => nomatch e)
theorem ev_ifF (h : Et W t δ false) (h1 : EP W tb δ P) : EP W (tIf t ta tb) δ P := ep_if h (fun e => nomatch e) (fun _ => h1)
theorem ev_chain {k m : Bool} (ha : Ev W ta δ a) (hb : Ev W tb δ b) (hr : Rv W r a b (.bl k)) (hc : k = true → Ev W tc δ d ∧ Rv W r' b d (.bl m)) : Ev W (tChain r r' ta tb tc) δ (.bl (k && m)) := fun σ Hs H s Q q =>
  ha.run s fun v d1 Hs1 H1 st1 s1 pa ra => hb.run s1 fun u d2 Hs2 H2 st2 s2 pb rb => by
    subst pa
    subst pb
    refine hr Hs2 H2 v u s2.sub (ra.ex st2.ex1) rb _ fun z dd Hs3 H3 st3 pd rd => ?_
    subst pd
    cases rd
    refine ⟨k, rfl, ?_⟩
    cases k with
    | true =>
      obtain ⟨h1, h2⟩ := hc rfl
      refine h1.run (s2.step st3) fun x d4 Hs4 H4 st4 s4 p4 r4 => ?_
      subst p4
      exact h2 Hs4 H4 u x s4.sub (rb.ex (st3.trans st4).ex1) r4 Q fun z dd Hs5 H5 st5 pd rd => q z dd Hs5 H5 (((st1.trans st2).trans (st3.trans st4)).trans st5) pd rd
    | false => exact q _ _ Hs3 H3 ((st1.trans st2).trans st3) rfl (.bl false)

/-! ### arguments, displays -/
theorem ea_nil : Ea W tNil δ [] := fun σ Hs H s Q q => q [] [] Hs H (Stp.refl s.sub) rfl .nil
theorem ap_cons {tr : TA} {Pr : List Dv → Prop} (h : EP W te δ P) (hr : AP W tr δ Pr) : AP W (tCons te tr) δ fun ds => ∃ d es, ds = d :: es ∧ P d ∧ Pr es := fun σ Hs H s Q q =>
  h.run s fun v d Hs1 H1 st1 s1 pa ra => hr.run s1 fun vs es Hs2 H2 st2 s2 pb rb => q (v :: vs) (d :: es) Hs2 H2 (st1.trans st2) ⟨d, es, rfl, pa, pb⟩ (.cons (ra.ex st2.ex1) rb)
theorem ea_cons {tr : TA} {ds : List Dv} (h : Ev W te δ d) (hr : Ea W tr δ ds) : Ea W (tCons te tr) δ (d :: ds) := fun σ Hs H s Q q =>
  ap_cons h hr σ Hs H s Q fun vs es Hs' H' st p r => by
    obtain ⟨d', es', rfl, rfl, rfl⟩ := p
    exact q _ _ Hs' H' st rfl r
theorem AP.mono {ta : TA} {P P' : List Dv → Prop} (h : AP W ta δ P) (k : ∀ d, P d → P' d) : AP W ta δ P' := fun σ Hs H s Q q => h σ Hs H s Q fun v d Hs' H' st hd rv => q v d Hs' H' st (k d hd) rv
theorem len_ok {n : Nat} (h : n ≤ 100000) : n ≤ sizeLine := Nat.le_trans h (by decide)
theorem ep_tup {ta : TA} {P : List Dv → Prop} (h : AP W ta δ P) (hl : ∀ ds, P ds → ds.length ≤ 100000) : EP W (tTup ta) δ fun d => ∃ ds, d = .tup ds ∧ P ds := fun σ Hs H s Q q => h.run s fun vs ds Hs1 H1 st1 s1 pa ra =>
  ⟨by rw [ra.length]; exact len_ok (hl ds pa), fun p hp => q _ _ _ _ (st1.trans (Stp.new s1.sub hp)) ⟨ds, rfl, pa⟩ (.tup (.inl (.inl upd_same)) (ra.ex (Ex.new (fresh_back s1.sub hp))))⟩
theorem ev_tup {ta : TA} {ds : List Dv} (h : Ea W ta δ ds) (hl : ds.length ≤ 100000) : Ev W (tTup ta) δ (.tup ds) := (ep_tup h fun ds e => by subst e; exact hl).mono fun d ⟨ds, e, e2⟩ => by subst e2; exact e
theorem ep_lst {ta : TA} {P : List Dv → Prop} (h : AP W ta δ P) (hl : ∀ ds, P ds → ds.length ≤ 100000) : EP W (tLst ta) δ fun d => ∃ ds, d = .lst ds ∧ P ds := fun σ Hs H s Q q => h.run s fun vs ds Hs1 H1 st1 s1 pa ra =>
  ⟨by rw [ra.length]; exact len_ok (hl ds pa), fun p hp => q _ _ _ _ (st1.trans (Stp.new s1.sub hp)) ⟨ds, rfl, pa⟩ (.lst upd_same (ra.ex (Ex.new (fresh_back s1.sub hp))))⟩
theorem ev_lst {ta : TA} {ds : List Dv} (h : Ea W ta δ ds) (hl : ds.length ≤ 100000) : Ev W (tLst ta) δ (.lst ds) := (ep_lst h fun ds e => by subst e; exact hl).mono fun d ⟨ds, e, e2⟩ => by subst e2; exact e

/-! ### calls -/
theorem ep_cb {rr : List V → Hp → VK → Prop} {tq : TA} {Pq : List Dv → Prop} (h : AP W tq δ Pq) (k : ∀ ds, Pq ds → CP W rr ds P) : EP W (tCB rr tq) δ P := fun σ Hs H s Q q => h.run s fun vs ds Hs1 H1 st1 s1 pa ra =>
  k ds pa Hs1 H1 vs s1.sub ra Q fun z d Hs2 H2 st2 pd rd => q z d Hs2 H2 (st1.trans st2) pd rd
theorem ev_cb {rr : List V → Hp → VK → Prop} {tq : TA} {ds : List Dv} (h : Ea W tq δ ds) (k : Cv W rr ds d) : Ev W (tCB rr tq) δ d := ep_cb h fun ds e => by subst e; exact k
theorem ep_call {α : Type} {args : α → List Dv} {pre : α → Prop} {res : α → Dv → Prop} {E : XK} {tq : TA} (h : AP W tq δ fun ds => ∃ x, ds = args x ∧ pre x ∧ ∀ d, res x d → P d) : EP W (tCall (spF W.c args pre res) [] E tq) δ P := fun σ Hs H s Q q => h.run s fun vs ds Hs1 H1 st1 s1 pa ra => by
  obtain ⟨x, rfl, px, k⟩ := pa
  show spF W.c args pre res (vs ++ []) H1 Q E
  rw [List.append_nil]
  exact ⟨x, Hs1, ra, s1.sub, px, fun v d Hs2 H2 st2 rd rv => q v d Hs2 H2 (st1.trans st2) (k d rd) rv⟩
theorem ev_call {α : Type} {args : α → List Dv} {pre : α → Prop} {res : α → Dv → Prop} {E : XK} {tq : TA} (x : α) (h : Ea W tq δ (args x)) (px : pre x) (k : ∀ d', res x d' → d' = d) : Ev W (tCall (spF W.c args pre res) [] E tq) δ d :=
  ep_call (h.mono fun ds e => ⟨x, e, px, k⟩)
/-- len, list, tuple, abs, max, min, int, all -/
theorem cv_len_l {K : PySem.W.Frag} {l : List Dv} (hK : K = W.c.K := by rfl) : Cv W (fun xs H Q => ∃ p ys, xs = [.ref p] ∧ (SqL K H p ys ∨ SqT K H p ys) ∧ Q (.int ys.length) H) [.lst l] (.int l.length) := fun Hs H vs ex r Q q => by
  cases r with
  | cons r1 r2 =>
    cases r2
    cases r1 with
    | lst h rr =>
      refine ⟨_, _, rfl, .inl (.inl (.inl (ex _ _ h))), ?_⟩
      rw [rr.length]
      exact q _ _ Hs H (Stp.refl ex) rfl (.int _)
theorem cv_len_t {K : PySem.W.Frag} {l : List Dv} (hK : K = W.c.K := by rfl) : Cv W (fun xs H Q => ∃ p ys, xs = [.ref p] ∧ (SqL K H p ys ∨ SqT K H p ys) ∧ Q (.int ys.length) H) [.tup l] (.int l.length) := fun Hs H vs ex r Q q => by
  subst hK
  cases r with
  | cons r1 r2 =>
    cases r2
    cases r1 with
    | tup h rr =>
      refine ⟨_, _, rfl, .inr (ex_t ex h), ?_⟩
      rw [rr.length]
      exact q _ _ Hs H (Stp.refl ex) rfl (.int _)
theorem cv_len_s {K : PySem.W.Frag} {l : List Int} (hK : K = W.c.K := by rfl) : Cv W (fun xs H Q => ∃ p ys, xs = [.ref p] ∧ (SqL K H p ys ∨ SqT K H p ys) ∧ Q (.int ys.length) H) [.scr l] (.int l.length) := fun Hs H vs ex r Q q => by
  subst hK
  cases r with
  | cons r1 r2 =>
    cases r2
    cases r1 with
    | scr h =>
      refine ⟨_, _, rfl, .inl (ex_l ex h), ?_⟩
      rw [List.length_map]
      exact q _ _ Hs H (Stp.refl ex) rfl (.int _)
theorem cv_list_l {K : PySem.W.Frag} {l : List Dv} (hK : K = W.c.K := by rfl) : Cv W (fun xs H Q => ∃ p ys, xs = [.ref p] ∧ (SqL K H p ys ∨ SqT K H p ys) ∧ ∀ l, H l = none → Q (.ref l) (upd H l (.lst ys))) [.lst l] (.lst l) := fun Hs H vs ex r Q q => by
  cases r with
  | cons r1 r2 =>
    cases r2
    cases r1 with
    | lst h rr => exact ⟨_, _, rfl, .inl (.inl (.inl (ex _ _ h))), fun p hp => q _ _ _ _ (Stp.new ex hp) rfl (.lst upd_same (rr.ex (Ex.new (fresh_back ex hp))))⟩
theorem cv_list_t {K : PySem.W.Frag} {l : List Dv} (hK : K = W.c.K := by rfl) : Cv W (fun xs H Q => ∃ p ys, xs = [.ref p] ∧ (SqL K H p ys ∨ SqT K H p ys) ∧ ∀ l, H l = none → Q (.ref l) (upd H l (.lst ys))) [.tup l] (.lst l) := fun Hs H vs ex r Q q => by
  subst hK
  cases r with
  | cons r1 r2 =>
    cases r2
    cases r1 with
    | tup h rr => exact ⟨_, _, rfl, .inr (ex_t ex h), fun p hp => q _ _ _ _ (Stp.new ex hp) rfl (.lst upd_same (rr.ex (Ex.new (fresh_back ex hp))))⟩
theorem cv_tuple_l {K : PySem.W.Frag} {l : List Dv} (hK : K = W.c.K := by rfl) : Cv W (fun xs H Q => ∃ p ys, xs = [.ref p] ∧ ((SqL K H p ys ∧ ∀ l, H l = none → Q (.ref l) (upd H l (.tup ys))) ∨ (SqT K H p ys ∧ Q (.ref p) H))) [.lst l] (.tup l) := fun Hs H vs ex r Q q => by
  cases r with
  | cons r1 r2 =>
    cases r2
    cases r1 with
    | lst h rr => exact ⟨_, _, rfl, .inl ⟨.inl (.inl (ex _ _ h)), fun p hp => q _ _ _ _ (Stp.new ex hp) rfl (.tup (.inl (.inl upd_same)) (rr.ex (Ex.new (fresh_back ex hp))))⟩⟩
theorem cv_tuple_t {K : PySem.W.Frag} {l : List Dv} (hK : K = W.c.K := by rfl) : Cv W (fun xs H Q => ∃ p ys, xs = [.ref p] ∧ ((SqL K H p ys ∧ ∀ l, H l = none → Q (.ref l) (upd H l (.tup ys))) ∨ (SqT K H p ys ∧ Q (.ref p) H))) [.tup l] (.tup l) := fun Hs H vs ex r Q q => by
  subst hK
  cases r with
  | cons r1 r2 =>
    cases r2
    cases r1 with
    | tup h rr => exact ⟨_, _, rfl, .inr ⟨ex_t ex h, q _ _ Hs H (Stp.refl ex) rfl (.tup h rr)⟩⟩
theorem cv_len_w {K : PySem.W.Frag} {w : List Int} (hK : K = W.c.K := by rfl) : Cv W (fun xs H Q => ∃ p ys, xs = [.ref p] ∧ (SqL K H p ys ∨ SqT K H p ys) ∧ Q (.int ys.length) H) [wd w] (.int w.length) := by
  have h := cv_len_t (W := W) (l := w.map Dv.int) hK
  rw [List.length_map] at h
  exact h
theorem cv_len_il {K : PySem.W.Frag} {w : List Int} (hK : K = W.c.K := by rfl) : Cv W (fun xs H Q => ∃ p ys, xs = [.ref p] ∧ (SqL K H p ys ∨ SqT K H p ys) ∧ Q (.int ys.length) H) [il w] (.int w.length) := by
  have h := cv_len_l (W := W) (l := w.map Dv.int) hK
  rw [List.length_map] at h
  exact h
theorem cv_len_wds {K : PySem.W.Frag} {w : List (List Int)} (hK : K = W.c.K := by rfl) : Cv W (fun xs H Q => ∃ p ys, xs = [.ref p] ∧ (SqL K H p ys ∨ SqT K H p ys) ∧ Q (.int ys.length) H) [wds w] (.int w.length) := by
  have h := cv_len_l (W := W) (l := w.map wd) hK
  rw [List.length_map] at h
  exact h
theorem cv_abs {i : Int} : Cv W (fun xs H Q => ∃ i, xs = [.int i] ∧ Q (.int (if i < 0 then -i else i)) H) [.int i] (.int (if i < 0 then -i else i)) := fun Hs H vs ex r Q q => by
  cases r with
  | cons r1 r2 =>
    cases r2
    cases r1
    exact ⟨i, rfl, q _ _ Hs H (Stp.refl ex) rfl (.int _)⟩
theorem cv_max2 {i j : Int} : Cv W (fun xs H Q => ∃ i j, xs = [.int i, .int j] ∧ Q (.int (if j > i then j else i)) H) [.int i, .int j] (.int (if j > i then j else i)) := fun Hs H vs ex r Q q => by
  cases r with
  | cons r1 r2 =>
    cases r2 with
    | cons r2 r3 =>
      cases r3
      cases r1
      cases r2
      exact ⟨i, j, rfl, q _ _ Hs H (Stp.refl ex) rfl (.int _)⟩
theorem cv_min2 {i j : Int} : Cv W (fun xs H Q => ∃ i j, xs = [.int i, .int j] ∧ Q (.int (if j < i then j else i)) H) [.int i, .int j] (.int (if j < i then j else i)) := fun Hs H vs ex r Q q => by
  cases r with
  | cons r1 r2 =>
    cases r2 with
    | cons r2 r3 =>
      cases r3
      cases r1
      cases r2
      exact ⟨i, j, rfl, q _ _ Hs H (Stp.refl ex) rfl (.int _)⟩
theorem cv_int {i : Int} : Cv W (fun xs H Q => (∃ i, xs = [.int i] ∧ Q (.int i) H) ∨ ∃ k, xs = [.bl k] ∧ Q (.int (if k then 1 else 0)) H) [.int i] (.int i) := fun Hs H vs ex r Q q => by
  cases r with
  | cons r1 r2 =>
    cases r2
    cases r1
    exact .inl ⟨i, rfl, q _ _ Hs H (Stp.refl ex) rfl (.int _)⟩
theorem cv_intb {i : Bool} : Cv W (fun xs H Q => (∃ i, xs = [.int i] ∧ Q (.int i) H) ∨ ∃ k, xs = [.bl k] ∧ Q (.int (if k then 1 else 0)) H) [.bl i] (.int (if i then 1 else 0)) := fun Hs H vs ex r Q q => by
  cases r with
  | cons r1 r2 =>
    cases r2
    cases r1
    exact .inr ⟨i, rfl, q _ _ Hs H (Stp.refl ex) rfl (.int _)⟩
theorem cv_all {bs : List Bool} : Cv W (rAll W.c.K) [.lst (bs.map Dv.bl)] (.bl (bs.all id)) := fun Hs H vs ex r Q q => by
  cases r with
  | cons r1 r2 =>
    cases r2
    cases r1 with
    | lst h rr =>
      have e := rp_bls rr
      subst e
      exact ⟨_, bs, rfl, .inl (.inl (ex _ _ h)), q _ _ Hs H (Stp.refl ex) rfl (.bl _)⟩
theorem cp_min {ns : List Int} (h0 : 0 < ns.length) : CP W (rMin W.c.K) [il ns] fun d => ∃ m, d = .int m ∧ m ∈ ns ∧ ∀ y ∈ ns, m ≤ y := fun Hs H vs ex r Q q => by
  cases r with
  | cons r1 r2 =>
    cases r2
    cases r1 with
    | lst h rr =>
      have e := rp_ints rr
      subst e
      exact ⟨_, ns, rfl, .inl (.inl (ex _ _ h)), h0, fun m hm hle => q _ _ Hs H (Stp.refl ex) ⟨m, rfl, hm, hle⟩ (.int _)⟩
end
end KD
set_option Elab.async false
set_option linter.all false
set_option maxRecDepth 100000
set_option maxHeartbeats 4000000
namespace KD
open PySem PySem.Spec PyProof.Rows L2
open Evl (Ex Ex.refl Ex.trans Ex.new Ex.mut ex_l ex_t fresh_back)

/-! ### what is walked -/
theorem IP.run {W : Wc} {wi : TI} {δ : List Sl} {P : List Dv → Prop} (h : IP W wi δ P) {σ : L2.St} {Hs H : Hp} (s : SD W δ σ Hs H) {R : It → Hp → Prop} (q : ∀ J ys Hs' H', Stp Hs H Hs' H' → SD W δ σ Hs' H' → P ys → Wk W J Hs' H' ys → R J H') : wi σ H R :=
  h σ Hs H s R fun J ys Hs' H' st p w => q J ys Hs' H' st (s.step st) p w
section
variable {W : Wc} {δ δ' : List Sl} {ta tb tc te : TE} {t u : TT} {a b d e : Dv} {P Pa Pb : Dv → Prop} {r r' : R2}
theorem wk_at {J : It} {xs : List V} {G : Hp → Prop} {l : List Dv} {Hs H : Hp} (w : Walk J xs.length G (YAt xs)) (hG : ∀ H', Ex Hs H' → G H') (r : RpAll W.c Hs xs l) : Wk W J Hs H l := by
  refine ⟨G, YAt xs, ?_, hG, fun i Hs1 H1 x H2 d e1 e2 hd hy => ?_⟩
  · rw [← r.length]
    exact w
  · obtain ⟨rfl, hx⟩ := hy
    obtain ⟨v, hv, rv⟩ := r.get hd
    rw [hx] at hv
    cases hv
    exact ⟨Hs1, Stp.refl e2, rv.ex e1⟩
theorem iv_list {l : List Dv} (h : Ev W te δ (.lst l)) : Iv W (iList W.c.K te) δ l := fun σ Hs H s R q => h.run s fun v d Hs1 H1 st1 s1 pa ra => by
  subst pa
  cases ra with
  | lst ha rr => exact ⟨_, rfl, ⟨_, .inl (.inl (s1.sub _ _ ha))⟩, q _ l Hs1 H1 st1 rfl (wk_at walk_list (fun H' e => .inl (.inl (e _ _ ha))) rr)⟩
theorem iv_tup {l : List Dv} (h : Ev W te δ (.tup l)) : Iv W (iTup W.c.K te) δ l := fun σ Hs H s R q => h.run s fun v d Hs1 H1 st1 s1 pa ra => by
  subst pa
  cases ra with
  | tup ha rr => exact ⟨_, rfl, ⟨_, ex_t s1.sub ha⟩, q _ l Hs1 H1 st1 rfl (wk_at walk_tup (fun H' e => ex_t e ha) rr)⟩
/-- lo, lo + 1, .. -/
def rngD (lo : Int) (n : Nat) : List Dv := (List.range n).map fun i => .int (lo + (i : Nat))
theorem rngD_get {lo : Int} {n i : Nat} {d : Dv} (h : (rngD lo n)[i]? = some d) : i < n ∧ d = .int (lo + (i : Nat)) := by
  unfold rngD at h
  rw [List.getElem?_map] at h
  by_cases hi : i < n
  · rw [List.getElem?_range hi] at h
    exact ⟨hi, (Option.some.inj h).symm⟩
  · rw [List.getElem?_eq_none (by simpa using hi)] at h
    cases h
theorem rngD_len {lo : Int} {n : Nat} : (rngD lo n).length = n := by
  unfold rngD
  simp
theorem wk_rng {Hs H : Hp} {lo : Int} {n : Nat} : Wk W (Itr lo n) Hs H (rngD lo n) := by
  refine ⟨fun _ => True, YFn fun i => .int (lo + i), ?_, fun _ _ => trivial, fun i Hs1 H1 x H2 d e1 e2 hd hy => ?_⟩
  · rw [rngD_len]
    exact walk_range
  · obtain ⟨rfl, rfl⟩ := hy
    obtain ⟨_, rfl⟩ := rngD_get hd
    exact ⟨Hs1, Stp.refl e2, .int _⟩
theorem ip_rng1 {tq : TA} {Pn : Int → Prop} (h : AP W tq δ fun ds => ∃ n, ds = [.int n] ∧ n ≤ 1000000 ∧ -1000000 ≤ n ∧ Pn n) : IP W (iRng1 tq) δ fun ys => ∃ n, ys = rngD 0 n.toNat ∧ Pn n := fun σ Hs H s R q => h.run s fun vs ds Hs1 H1 st1 s1 pa ra => by
  obtain ⟨n, rfl, h1, h2, hp⟩ := pa
  cases ra with
  | cons r1 r2 =>
    cases r2
    cases r1
    exact ⟨n, rfl, by omega, by omega, q _ _ Hs1 H1 st1 ⟨n, rfl, hp⟩ wk_rng⟩
theorem iv_rng1 {tq : TA} {n : Int} (h : Ea W tq δ [.int n]) (h1 : n ≤ 1000000) (h2 : -1000000 ≤ n) : Iv W (iRng1 tq) δ (rngD 0 n.toNat) := fun σ Hs H s R q => h.run s fun vs ds Hs1 H1 st1 s1 pa ra => by
  subst pa
  cases ra with
  | cons r1 r2 =>
    cases r2
    cases r1
    exact ⟨n, rfl, by omega, by omega, q _ _ Hs1 H1 st1 rfl wk_rng⟩
theorem iv_rng2 {tq : TA} {lo n : Int} (h : Ea W tq δ [.int lo, .int n]) (h1 : n ≤ 1000000) (h2 : -1000000 ≤ n) (h3 : lo ≤ 1000000) (h4 : -1000000 ≤ lo) : Iv W (iRng2 tq) δ (rngD lo (n - lo).toNat) := fun σ Hs H s R q => h.run s fun vs ds Hs1 H1 st1 s1 pa ra => by
  subst pa
  cases ra with
  | cons r1 r2 =>
    cases r2 with
    | cons r2 r3 =>
      cases r3
      cases r1
      cases r2
      exact ⟨lo, n, rfl, ⟨by omega, by omega, by omega, by omega⟩, q _ _ Hs1 H1 st1 rfl wk_rng⟩
/-- (k, d), .. -/
def enumD (k : Nat) : List Dv → List Dv
  | [] => []
  | d :: ds => .tup [.int (k : Nat), d] :: enumD (k + 1) ds
theorem enumD_len : ∀ (ds : List Dv) (k : Nat), (enumD k ds).length = ds.length
  | [], _ => rfl
  | d :: ds, k => congrArg (· + 1) (enumD_len ds (k + 1))
theorem enumD_get : ∀ {ds : List Dv} {k i : Nat} {e : Dv}, (enumD k ds)[i]? = some e → ∃ d, ds[i]? = some d ∧ e = .tup [.int ((k + i : Nat) : Int), d]
  | [], _, _, _, h => by simp [enumD] at h
  | d :: ds, k, 0, e, h => by
    simp [enumD] at h
    exact ⟨d, rfl, by rw [← h]; simp⟩
  | d :: ds, k, i + 1, e, h => by
    have h' : (enumD (k + 1) ds)[i]? = some e := by simpa [enumD] using h
    obtain ⟨d', h1, h2⟩ := enumD_get h'
    refine ⟨d', by simpa using h1, ?_⟩
    rw [h2]
    have : k + 1 + i = k + (i + 1) := by omega
    rw [this]
theorem rp_pair {c : Kc} {Hs H : Hp} {T : Addr} {x y : V} {d e : Dv} (ex : Ex Hs H) (hT : H T = none) (r1 : Rp c Hs x d) (r2 : Rp c Hs y e) : ∃ Hs2, Stp Hs H Hs2 (upd H T (.tup [x, y])) ∧ Rp c Hs2 (.ref T) (.tup [d, e]) :=
  ⟨_, Stp.new ex hT, .tup (.inl (.inl upd_same)) ((RpAll.cons r1 (.cons r2 .nil)).ex (Ex.new (fresh_back ex hT)))⟩
theorem iv_enum {tq : TA} {l : List Dv} (h : Ea W tq δ [.lst l]) : Iv W (iEnum W.c.K tq) δ (enumD 0 l) := fun σ Hs H s R q => h.run s fun vs ds Hs1 H1 st1 s1 pa ra => by
  subst pa
  cases ra with
  | cons r1 r2 =>
    cases r2
    cases r1 with
    | lst ha rr =>
      rename_i ad xs
      refine ⟨ad, xs, rfl, .inl (.inl (s1.sub _ _ ha)), q _ _ Hs1 H1 st1 rfl ⟨fun H => SqL W.c.K H ad xs, _, (by rw [enumD_len, ← rr.length]; exact walk_enum (K := W.c.K) (a := ad) (xs := xs)), fun H' e => Or.inl (Or.inl (e _ _ ha)), fun i Hs2 H2 x H3 d e1 e2 hd hy => ?_⟩⟩
      obtain ⟨T, x1, y1, rfl, hT, rfl, hx, hy⟩ := hy
      cases hx
      obtain ⟨d', hd', rfl⟩ := enumD_get hd
      obtain ⟨v, hv, rv⟩ := rr.get hd'
      have hy' : xs[i]? = some y1 := hy
      rw [hy'] at hv
      cases hv
      have := rp_pair (c := W.c) e2 hT (.int ((i : Nat) : Int)) (rv.ex e1)
      simpa using this

/-! ### targets -/
/-- σ' differs from σ at the places js alone -/
def Diff (js : List Nat) (σ σ' : L2.St) : Prop := σ'.length = σ.length ∧ ∀ k, k ∉ js → σ'[k]? = σ[k]?
def TgD (W : Wc) (g : TG) (js : List Nat) (d : Dv) (δ δ' : List Sl) : Prop := ∀ (σ : L2.St) (Hs H : Hp) (v : V), SD W δ σ Hs H → Rp W.c Hs v d → ∀ Q : L2.St → Hp → Prop, (∀ σ', SD W δ' σ' Hs H → Diff js σ σ' → Q σ' H) → g v σ H Q
theorem tg_name {i : Nat} : TgD W (gName i) [i] d δ (δ.set i (.val d)) := fun σ Hs H v s r Q q => q _ (s.set r) ⟨by simp, fun k hk => by
  have : i ≠ k := fun z => hk (by simp [z])
  rw [List.getElem?_set_ne this]⟩
theorem tg_pair {i j : Nat} : TgD W (gTup W.c.K 2 (gCons (gName i) (gCons (gName j) gNil))) [i, j] (.tup [a, b]) δ ((δ.set i (.val a)).set j (.val b)) := fun σ Hs H v s r Q q => by
  cases r with
  | tup h rr =>
    cases rr with
    | cons r1 rr =>
      cases rr with
      | cons r2 rr =>
        cases rr
        refine ⟨_, _, rfl, ex_t s.sub h, rfl, _, _, rfl, ?_⟩
        refine ⟨_, _, rfl, ?_⟩
        refine ⟨rfl, q _ ((s.set r1).set r2) ⟨by simp, fun k hk => ?_⟩⟩
        have h1 : i ≠ k := fun z => hk (by simp [z])
        have h2 : j ≠ k := fun z => hk (by simp [z])
        rw [List.getElem?_set_ne h2, List.getElem?_set_ne h1]
theorem wipe_get (σ : L2.St) (k : Nat) : ∀ vs : List Nat, (wipe σ vs)[k]? = if k ∈ vs ∧ k < σ.length then some none else σ[k]?
  | [] => by simp [wipe]
  | v :: vs => by
    have ih := wipe_get σ k vs
    unfold wipe
    by_cases hv : v = k
    · subst hv
      by_cases hl : v < σ.length
      · rw [List.getElem?_set_self (by rw [wipe_length]; exact hl)]
        simp [hl]
      · rw [List.getElem?_eq_none (by rw [List.length_set, wipe_length]; omega), if_neg (by omega), List.getElem?_eq_none (by omega)]
    · rw [List.getElem?_set_ne hv, ih]
      have hv' : ¬ k = v := fun z => hv z.symm
      simp [hv']
theorem wipe_diff {σ σ' : L2.St} {js vs : List Nat} (h : Diff js (wipe σ vs) σ') (hj : ∀ j ∈ js, j ∈ vs) : wipe σ' vs = wipe σ vs := by
  apply List.ext_getElem?
  intro k
  rw [wipe_get, wipe_get]
  have hl : σ'.length = σ.length := by rw [h.1, wipe_length]
  rw [hl]
  by_cases hk : k ∈ vs
  · by_cases hl2 : k < σ.length
    · simp [hk, hl2]
    · have e1 : σ'[k]? = none := List.getElem?_eq_none (by omega)
      have e2 : σ[k]? = none := List.getElem?_eq_none (by omega)
      rw [e1, e2]
  · have hk' : k ∉ js := fun z => hk (hj k z)
    rw [h.2 k hk', wipe_get]
    simp [hk]

/-! ### comprehensions -/
/-- an item d: kept or not by f, E what its element is -/
theorem ep_lc {wi : TI} {g : TG} {tt : TT} {te : TE} {vs js : List Nat} {Py : List Dv → Prop} {f : Dv → Bool} {E : Dv → Dv → Prop} (hi : IP W wi δ Py) (hl : ∀ ys, Py ys → ys.length ≤ 100000) (hj : ∀ j ∈ js, j ∈ vs)
    (ht : ∀ ys, Py ys → ∀ d ∈ ys, ∃ δ2, TgD W g js d (wipeD δ vs) δ2 ∧ Et W tt δ2 (f d) ∧ (f d = true → EP W te δ2 (E d))) :
    EP W (tLc wi g tt te vs) δ fun z => ∃ ys l, Py ys ∧ z = .lst l ∧ Paired E (ys.filter f) l := fun σ Hs H s Q q => by
  refine hi.run s fun J ys Hs1 H1 st1 s1 py wk D hD => ?_
  obtain ⟨G, Y, w, hG, hY⟩ := wk
  have eD : Ex Hs1 (upd H1 D (.lst [])) := s1.sub.trans (Ex.new hD)
  have hs1D : Hs1 D = none := fresh_back s1.sub hD
  refine lc_it w (fun i H2 => ∃ Hs2 xs l, Stp Hs1 H1 Hs2 (upd H2 D (.lst [])) ∧ Ex Hs2 H2 ∧ Hs2 D = none ∧ H2 D = some (.lst xs) ∧ RpAll W.c Hs2 xs l ∧ xs.length ≤ i ∧ Paired E ((ys.take i).filter f) l) ?_ ?_ ?_ ?_
  · refine ⟨Hs1, [], [], ⟨Ex.refl _, ?_, ?_, fun p h _ => h⟩, eD, hs1D, upd_same, .nil, Nat.zero_le _, .nil⟩
    · rw [upd_upd]
      exact Ex.new hD
    · rw [upd_upd]
      exact eD
  · rintro i H2 hi ⟨Hs2, xs, l, st2, e2, _⟩
    exact hG H2 (st2.ex1.trans e2)
  · rintro i x H2 H3 hi ⟨Hs2, xs, l, st2, e2, hsD, hHD, rr, hxl, hp⟩ hy
    have hd : ys[i]? = some ys[i] := List.getElem?_eq_getElem hi
    obtain ⟨Hs3, st3, rx⟩ := hY i Hs2 H2 x H3 ys[i] st2.ex1 e2 hd hy
    obtain ⟨δ2, tg, htt, hte⟩ := ht ys py ys[i] (List.getElem_mem hi)
    -- the slots' state at this turn
    have base : Stp W.Ho W.Hb Hs2 H2 := by
      refine ⟨s1.stp.ex1.trans st2.ex1, fun a o h => ?_, e2, fun p h1 h2 => st2.off p (s1.stp.off p h1 h2) ?_⟩
      · have h1 := s1.stp.ex2 a o h
        have ne : a ≠ D := ne_of_none h1 hD
        have h2 := st2.ex2 a o h1
        rw [upd_ne ne] at h2
        exact h2
      · intro z
        cases q1 : W.Hb p with
        | none => exact h2 q1
        | some o =>
          have := s1.stp.ex2 p o q1
          rw [z] at this
          cases this
    have s2 : SD W δ σ Hs2 H2 := by
      refine ⟨base, s1.len, ?_⟩
      obtain ⟨P, a⟩ := s1.at_
      refine ⟨P, fun j sl o h1 h2 => ?_⟩
      have aj := a j sl o h1 h2
      cases sl with
      | non => trivial
      | val dd => obtain ⟨v, e, r⟩ := aj; exact ⟨v, e, r.ex st2.ex1⟩
      | own es =>
        obtain ⟨e, h1, h2, xs', h3, h4⟩ := aj
        have ne : P ≠ D := ne_of_none h3 hD
        refine ⟨e, h1, st2.off P h2 (by rw [h3]; exact fun z => nomatch z), xs', ?_, h4.ex st2.ex1⟩
        have := st2.ex2 P _ h3
        rw [upd_ne ne] at this
        exact this
    have s3 : SD W (wipeD δ vs) (wipe σ vs) Hs3 H3 := (s2.step st3).wipe vs
    have hs3D : Hs3 D = none := st3.off D hsD (by rw [hHD]; exact fun z => nomatch z)
    refine tg _ Hs3 H3 x s3 rx _ fun σ4 s4 df => ?_
    refine ⟨wipe_diff df hj, ?_⟩
    refine htt.run s4 fun k Hs5 H5 st5 s5 pk => ?_
    subst pk
    have hs5D : Hs5 D = none := st5.off D hs3D (by rw [st3.ex2 _ _ hHD]; exact fun z => nomatch z)
    have hH5 : H5 D = some (.lst xs) := st5.ex2 _ _ (st3.ex2 _ _ hHD)
    have tk : (ys.take (i + 1)).filter f = (ys.take i).filter f ++ if f ys[i] = true then [ys[i]] else [] := by
      rw [List.take_add_one, List.getElem?_eq_getElem hi, List.filter_append]
      congr 1
      by_cases hf : f ys[i] = true
      · simp [hf]
      · simp [hf]
    have fin : ∀ {Hs6 H6 : Hp} {xs' : List V}, Stp Hs3 H3 Hs6 H6 → Hs6 D = none → Stp Hs1 H1 Hs6 (upd (upd H6 D (.lst xs')) D (.lst [])) := fun {Hs6 H6 xs'} st6 h6 => by
      rw [upd_upd]
      refine ⟨(st2.ex1.trans st3.ex1).trans st6.ex1, fun a o h => ?_, fun a o h => ?_, fun p h1 h2 => ?_⟩
      · have ne : a ≠ D := ne_of_none h hD
        have h2 := st2.ex2 a o h
        rw [upd_ne ne] at h2 ⊢
        exact st6.ex2 _ _ (st3.ex2 _ _ h2)
      · have ne : a ≠ D := ne_of_none h h6
        rw [upd_ne ne]
        exact st6.sub _ _ h
      · have ne : p ≠ D := fun z => by subst z; exact h2 hD
        have h3 := st2.off p h1 h2
        have h4 : H2 p ≠ none := fun z => by
          cases q1 : H1 p with
          | none => exact h2 q1
          | some o =>
            have := st2.ex2 p o q1
            rw [upd_ne ne, z] at this
            cases this
        have h5 := st3.off p h3 h4
        refine st6.off p h5 fun z => ?_
        cases q1 : H2 p with
        | none => exact h4 q1
        | some o =>
          have := st3.ex2 p o q1
          rw [z] at this
          cases this
    by_cases hf : f ys[i] = true
    · rw [hf]
      show te σ4 H5 _
      refine (hte hf).run s5 fun y z Hs6 H6 st6 s6 pz rz => ?_
      have hs6D : Hs6 D = none := st6.off D hs5D (by rw [hH5]; exact fun z => nomatch z)
      have hH6 : H6 D = some (.lst xs) := st6.ex2 _ _ hH5
      refine ⟨xs, hH6, ?_, Hs6, xs ++ [y], l ++ [z], fin (st5.trans st6) hs6D, ?_, hs6D, upd_same, ?_, ?_, ?_⟩
      · have := hl ys py
        exact Nat.lt_of_le_of_lt (by omega : _ ≤ 100000) (by decide)
      · exact Ex.mut s6.sub hs6D
      · exact (rr.ex ((st3.ex1.trans st5.ex1).trans st6.ex1)).append (.cons rz .nil)
      · simp
        omega
      · rw [tk, if_pos hf]
        exact hp.snoc pz
    · have hf' : f ys[i] = false := by simpa using hf
      rw [hf']
      show ∃ Hs2 xs l, _
      have e5 : upd H5 D (.lst xs) = H5 := by
        funext p
        by_cases hp : p = D
        · subst hp
          rw [upd_same, hH5]
        · rw [upd_ne hp]
      refine ⟨Hs5, xs, l, ?_, s5.sub, hs5D, hH5, rr.ex (st3.ex1.trans st5.ex1), by omega, ?_⟩
      · have := fin (xs' := xs) st5 hs5D
        rw [e5] at this
        exact this
      · rw [tk, if_neg (by rw [hf']; decide), List.append_nil]
        exact hp
  · rintro H2 ⟨Hs2, xs, l, st2, e2, hsD, hHD, rr, _, hp⟩
    rw [List.take_length] at hp
    have ex : Ex Hs2 (upd Hs2 D (.lst xs)) := Ex.new hsD
    refine q (.ref D) _ (upd Hs2 D (.lst xs)) H2 (st1.trans ⟨st2.ex1.trans ex, fun a o h => ?_, fun a o h => ?_, fun p h1 h2 => ?_⟩) ⟨ys, l, py, rfl, hp⟩ (.lst upd_same (rr.ex ex))
    · have ne : a ≠ D := ne_of_none h hD
      have := st2.ex2 a o h
      rw [upd_ne ne] at this
      exact this
    · by_cases ha : a = D
      · subst ha
        rw [upd_same] at h
        rw [hHD, h]
      · rw [upd_ne ha] at h
        exact e2 a o h
    · have ne : p ≠ D := fun z => by subst z; exact h2 hD
      rw [upd_ne ne]
      exact st2.off p h1 h2
theorem paired_eq {f : Dv → Dv} : ∀ {xs l : List Dv}, Paired (fun d z => z = f d) xs l → l = xs.map f
  | _, _, .nil => rfl
  | _, _, .cons h t => by
    rw [h, paired_eq t]
    rfl
theorem ev_lc {wi : TI} {g : TG} {tt : TT} {te : TE} {vs js : List Nat} {ys : List Dv} (f : Dv → Bool) (E : Dv → Dv) (hi : Iv W wi δ ys) (hl : ys.length ≤ 100000) (hj : ∀ j ∈ js, j ∈ vs)
    (ht : ∀ d ∈ ys, ∃ δ2, TgD W g js d (wipeD δ vs) δ2 ∧ Et W tt δ2 (f d) ∧ (f d = true → Ev W te δ2 (E d))) : Ev W (tLc wi g tt te vs) δ (.lst ((ys.filter f).map E)) :=
  (ep_lc (f := f) (E := fun d z => z = E d) hi (fun ys' e => by subst e; exact hl) hj (fun ys' e d hd => by subst e; exact ht d hd)).mono fun z ⟨ys', l, e, ez, hp⟩ => by
    subst e
    rw [ez, paired_eq hp]
theorem filt_true {α : Type} (ys : List α) : ys.filter (fun _ => true) = ys := List.filter_eq_self.mpr fun _ _ => rfl
/-- without a test -/
theorem ev_lcA {wi : TI} {g : TG} {te : TE} {vs js : List Nat} {ys : List Dv} (E : Dv → Dv) (hi : Iv W wi δ ys) (hl : ys.length ≤ 100000) (hj : ∀ j ∈ js, j ∈ vs)
    (ht : ∀ d ∈ ys, ∃ δ2, TgD W g js d (wipeD δ vs) δ2 ∧ Ev W te δ2 (E d)) : Ev W (tLc wi g tYes te vs) δ (.lst (ys.map E)) :=
  ev_eq (ev_lc (fun _ => true) E hi hl hj fun d hd => by
    obtain ⟨δ2, h1, h2⟩ := ht d hd
    exact ⟨δ2, h1, et_yes, fun _ => h2⟩) (by rw [filt_true])
/-- each element told by P alone -/
theorem paired_all {P : Dv → Prop} {E : Dv → Dv → Prop} (h : ∀ d z, E d z → P z) : ∀ {xs l : List Dv}, Paired E xs l → ∀ z ∈ l, P z
  | _, _, .nil, z, hz => by simp at hz
  | _, _, .cons h1 t, z, hz => by
    rcases List.mem_cons.mp hz with e | hz
    · subst e; exact h _ _ h1
    · exact paired_all h t z hz
theorem ep_lcA {wi : TI} {g : TG} {te : TE} {vs js : List Nat} {Py : List Dv → Prop} {P : Dv → Prop} (hi : IP W wi δ Py) (hl : ∀ ys, Py ys → ys.length ≤ 100000) (hj : ∀ j ∈ js, j ∈ vs)
    (ht : ∀ ys, Py ys → ∀ d ∈ ys, ∃ δ2, TgD W g js d (wipeD δ vs) δ2 ∧ EP W te δ2 P) : EP W (tLc wi g tYes te vs) δ fun z => ∃ ys l, Py ys ∧ z = .lst l ∧ l.length = ys.length ∧ ∀ x ∈ l, P x :=
  (ep_lc (f := fun _ => true) (E := fun _ z => P z) hi hl hj fun ys e d hd => by
    obtain ⟨δ2, h1, h2⟩ := ht ys e d hd
    exact ⟨δ2, h1, et_yes, fun _ => h2⟩).mono fun z ⟨ys, l, e, ez, hp⟩ => ⟨ys, l, e, ez, by
      have := hp.length
      rw [filt_true] at this
      exact this.symm, paired_all (P := P) (E := fun _ z => P z) (fun _ _ h => h) hp⟩
end
end KD
set_option Elab.async false
set_option linter.all false
set_option maxRecDepth 100000
set_option maxHeartbeats 4000000
namespace KD
open PySem PySem.Spec PyProof.Rows L2
open Evl (Ex Ex.refl Ex.trans Ex.new Ex.mut ex_l ex_t fresh_back)

section
variable {W : Wc} {δ δ' : List Sl} {ta tb tc te : TE} {t u : TT} {a b d e : Dv} {P Pa Pb : Dv → Prop} {N N' : List Sl → Prop} {R : Dv → Prop} {ts tz tw : TS}
theorem Sx.mono {N' : List Sl → Prop} (h : Sx W ts δ N R) (k : ∀ δ', N δ' → N' δ') : Sx W ts δ N' R := fun σ Hs H s D hn hr => h σ Hs H s D (fun δ' σ' Hs' H' n e => hn δ' σ' Hs' H' (k δ' n) e) hr
theorem sx_seq {N1 : List Sl → Prop} (h1 : Sx W ts δ N1 R) (h2 : ∀ δ', N1 δ' → Sx W tz δ' N R) : Sx W (tSeq ts tz) δ N R := fun σ Hs H s D hn hr =>
  h1 σ Hs H s { D with nx := tz D } (fun δ' σ' Hs' H' n e s' => h2 δ' n σ' Hs' H' s' D (fun a b c d x y z => hn a b c d x (e.trans y) z) hr) hr
theorem sx_weak (h : Sx W ts δ' N R) (hl : δ'.length = δ.length) (k : ∀ (i : Nat) (sl : Sl), δ'[i]? = some sl → sl = Sl.non ∨ δ[i]? = some sl) : Sx W ts δ N R := fun σ Hs H s D hn hr => h σ Hs H (s.weak hl k) D hn hr
theorem sx_next (h : N δ) : Sx W tNext δ N R := fun σ Hs H s D hn hr => hn δ σ Hs H h (Ex.refl _) s
theorem sx_nextS (h : Sx W tz δ N R) : Sx W (tSeq tNext tz) δ N R := h
theorem sx_assoc (h : Sx W (tSeq ts (tSeq tw tz)) δ N R) : Sx W (tSeq (tSeq ts tw) tz) δ N R := h
theorem sx_asgP {i : Nat} (h : EP W te δ P) (k : ∀ d, P d → N (δ.set i (.val d))) : Sx W (tAsg te (gName i)) δ N R := fun σ Hs H s D hn hr =>
  h.run s fun v d Hs1 H1 st1 s1 pd rd => hn _ _ Hs1 H1 (k d pd) st1.ex1 (s1.set rd)
theorem sx_asg {i : Nat} (h : Ev W te δ d) (k : N (δ.set i (.val d))) : Sx W (tAsg te (gName i)) δ N R := sx_asgP h fun d e => by subst e; exact k
theorem sq_asgP {i : Nat} (h : EP W te δ P) (k : ∀ d, P d → Sx W tz (δ.set i (.val d)) N R) : Sx W (tSeq (tAsg te (gName i)) tz) δ N R := sx_seq (N1 := fun δ' => ∃ d, P d ∧ δ' = δ.set i (.val d)) (sx_asgP h fun d p => ⟨d, p, rfl⟩) fun δ' ⟨d, p, e⟩ => by subst e; exact k d p
theorem sq_asg {i : Nat} (h : Ev W te δ d) (k : Sx W tz (δ.set i (.val d)) N R) : Sx W (tSeq (tAsg te (gName i)) tz) δ N R := sq_asgP h fun d e => by subst e; exact k
theorem sx_asgG {g : TG} {js : List Nat} (h : Ev W te δ d) (tg : TgD W g js d δ δ') (k : N δ') : Sx W (tAsg te g) δ N R := fun σ Hs H s D hn hr =>
  h.run s fun v d' Hs1 H1 st1 s1 pd rd => by
    subst pd
    exact tg σ Hs1 H1 v s1 rd _ fun σ' s' _ => hn _ _ Hs1 H1 k st1.ex1 s'
theorem sq_asgG {g : TG} {js : List Nat} (h : Ev W te δ d) (tg : TgD W g js d δ δ') (k : Sx W tz δ' N R) : Sx W (tSeq (tAsg te g) tz) δ N R := sx_seq (N1 := fun z => z = δ') (sx_asgG h tg rfl) fun z e => by subst e; exact k
theorem sq_asgT {i j : Nat} (h : EP W te δ fun d => ∃ x y, d = .tup [x, y] ∧ Pa x ∧ Pb y) (k : ∀ x y, Pa x → Pb y → Sx W tz ((δ.set i (.val x)).set j (.val y)) N R) : Sx W (tSeq (tAsg te (gTup W.c.K 2 (gCons (gName i) (gCons (gName j) gNil)))) tz) δ N R := fun σ Hs H s D hn hr =>
  h.run s fun v d' Hs1 H1 st1 s1 pd rd => by
    obtain ⟨x, y, rfl, px, py⟩ := pd
    exact tg_pair (δ := δ) (i := i) (j := j) σ Hs1 H1 v s1 rd _ fun σ' s' _ => k x y px py σ' Hs1 H1 s' D (fun a b c d x y z => hn a b c d x (st1.ex1.trans y) z) hr
/-- a list of one's own -/
def noOwn (δ : List Sl) (i : Nat) : Bool := !(δ.set i .non).any Sl.isOwn
theorem noOwn_ne {δ : List Sl} {i j : Nat} (h : noOwn δ i = true) (ne : j ≠ i) (es : List Dv) : δ[j]? ≠ some (.own es) := fun z => by
  unfold noOwn at h
  have h1 : (δ.set i .non).any Sl.isOwn = true := by
    rw [List.any_eq_true]
    refine ⟨.own es, ?_, rfl⟩
    apply List.mem_of_getElem? (i := j)
    rw [List.getElem?_set_ne (Ne.symm ne)]
    exact z
  rw [h1] at h
  cases h
theorem SD.setOwn {σ : L2.St} {Hs H : Hp} (s : SD W δ σ Hs H) {i : Nat} {p : Addr} {xs : List V} {ds : List Dv} (ho : noOwn δ i = true) (hb : W.Hb p = none) (hs : Hs p = none) (hH : H p = some (.lst xs)) (r : RpAll W.c Hs xs ds) : SD W (δ.set i (.own ds)) (σ.set i (some (.ref p))) Hs H := by
  refine ⟨s.stp, by rw [List.length_set, List.length_set, s.len], p, fun j sl o h1 h2 => ?_⟩
  rcases set_get h1 with ⟨e, _, rfl⟩ | ⟨ne, h1⟩
  · rcases set_get h2 with ⟨_, _, rfl⟩ | ⟨ne, _⟩
    · exact ⟨rfl, hb, hs, xs, hH, r⟩
    · exact absurd e ne
  · rcases set_get h2 with ⟨e, _, _⟩ | ⟨_, h2⟩
    · exact absurd e ne
    · obtain ⟨P, a⟩ := s.at_
      have q := a j sl o h1 h2
      cases sl with
      | non => trivial
      | val d => exact q
      | own es => exact absurd h1 (noOwn_ne ho ne es)
/-- a new list, not yet let stand -/
theorem lst_own {tq : TA} {ds : List Dv} (h : Ea W tq δ ds) (hl : ds.length ≤ 100000) {σ : L2.St} {Hs H : Hp} (s : SD W δ σ Hs H) {Q : VK} (q : ∀ p xs Hs' H', SD W δ σ Hs' H' → Stp Hs H Hs' H' → W.Hb p = none → Hs' p = none → H p = none → H' p = some (.lst xs) → RpAll W.c Hs' xs ds → Q (.ref p) H') : tLst tq σ H Q :=
  h.run s fun vs ds' Hs1 H1 st1 s1 pa ra => by
    subst pa
    refine ⟨by rw [ra.length]; exact len_ok hl, fun p hp => ?_⟩
    have hs1 : Hs1 p = none := fresh_back s1.sub hp
    have st2 : Stp Hs1 H1 Hs1 (upd H1 p (.lst vs)) := ⟨Ex.refl _, Ex.new hp, s1.sub.trans (Ex.new hp), fun _ h _ => h⟩
    exact q p vs Hs1 _ (s1.step st2) (st1.trans st2) (fresh_back s1.stp.ex2 hp) hs1 (fresh_back st1.ex2 hp) upd_same ra
theorem sq_own {i : Nat} {tq : TA} {ds : List Dv} (h : Ea W tq δ ds) (hl : ds.length ≤ 100000) (ho : noOwn δ i = true) (k : Sx W tz (δ.set i (.own ds)) N R) : Sx W (tSeq (tAsg (tLst tq) (gName i)) tz) δ N R := fun σ Hs H s D hn hr =>
  (lst_own (Q := fun x H1 => gName i x σ H1 (tz D)) h hl s fun p xs Hs1 H1 s1 st hb hs _ hH ra => k _ Hs1 H1 (s1.setOwn ho hb hs hH ra) D (fun a b c d x y z => hn a b c d x (st.ex1.trans y) z) hr : tLst tq σ H fun x H1 => gName i x σ H1 (tz D))
/-- f, g, h = [..], x, y -/
theorem sq_par3own {i j l : Nat} {tq : TA} {ds : List Dv} (h : Ea W tq δ ds) (hl : ds.length ≤ 100000) (hb' : Ev W tb δ b) (hc' : Ev W tc δ d) (ho : noOwn δ i = true) (k : Sx W tz (((δ.set i (.own ds)).set j (.val b)).set l (.val d)) N R) :
    Sx W (tSeq (tPar3 i j l (tCons (tLst tq) (tCons tb (tCons tc tNil)))) tz) δ N R := fun σ Hs H s D hn hr =>
  (lst_own (Q := fun x H1 => tCons tb (tCons tc tNil) σ H1 fun xs H2 => ∃ u v w, (x :: xs) = [u, v, w] ∧ tz D (((σ.set i (some u)).set j (some v)).set l (some w)) H2) h hl s fun p xs Hs1 H1 s1 st hb hs _ hH ra =>
    (hb'.run s1 fun v d1 Hs2 H2 st2 s2 p1 r1 => hc'.run s2 fun u d2 Hs3 H3 st3 s3 p2 r2 => by
      subst p1
      subst p2
      have h3 : Hs3 p = none := (st2.trans st3).off p hs (by rw [hH]; exact fun z => nomatch z)
      have s4 := (s3.setOwn (i := i) ho hb h3 ((st2.trans st3).ex2 _ _ hH) (ra.ex (st2.trans st3).ex1))
      exact ⟨_, _, _, rfl, k _ Hs3 H3 ((s4.set (i := j) (r1.ex st3.ex1)).set (i := l) r2) D (fun a b c d x y z => hn a b c d x (((st.trans st2).trans st3).ex1.trans y) z) hr⟩ :
      tb σ H1 fun v H2 => tc σ H2 fun u H3 => ∃ u1 v1 w1, (V.ref p :: [v, u]) = [u1, v1, w1] ∧ tz D (((σ.set i (some u1)).set j (some v1)).set l (some w1)) H3) : tLst tq σ H _)
theorem sq_par {i j : Nat} (ha : Ev W ta δ a) (hb : Ev W tb δ b) (k : Sx W tz ((δ.set i (.val a)).set j (.val b)) N R) : Sx W (tSeq (tPar i j (tCons ta (tCons tb tNil))) tz) δ N R := fun σ Hs H s D hn hr =>
  ha.run s fun v d1 Hs2 H2 st2 s2 p1 r1 => hb.run s2 fun u d2 Hs3 H3 st3 s3 p2 r2 => by
    subst p1
    subst p2
    exact ⟨_, _, rfl, k _ Hs3 H3 ((s3.set (i := i) (r1.ex st3.ex1)).set (i := j) r2) D (fun a b c d x y z => hn a b c d x ((st2.trans st3).ex1.trans y) z) hr⟩
theorem sx_freeze {i : Nat} {ds : List Dv} (h : δ[i]? = some (.own ds)) (ho : noOwn δ i = true) (k : Sx W ts (δ.set i (.val (.lst ds))) N R) : Sx W ts δ N R := fun σ Hs H s D hn hr => by
  obtain ⟨Hs', ex, s'⟩ := s.freeze h fun j ne es => noOwn_ne ho ne es
  exact k σ Hs' H s' D (fun a b c d x y z => hn a b c d x (ex.trans y) z) hr
/-- append -/
theorem sx_app {i : Nat} {ds : List Dv} {K : PySem.W.Frag} (hK : K = W.c.K) (h : δ[i]? = some (.own ds)) (ho : noOwn δ i = true) (hl : ds.length < 100000) (he : EP W te δ P) (k : ∀ d, P d → N (δ.set i (.own (ds ++ [d])))) :
    Sx W (tDrop (tBM K "list" rAppend (tVar i) (tCons te tNil))) δ N R := fun σ Hs H s D hn hr => by
  obtain ⟨p, xs, e, hb, hs, hH, ra⟩ := s.getOwn h
  refine ⟨.ref p, e, .inl ⟨rfl, xs, .inl (.inl hH)⟩, he.run s fun v d Hs1 H1 st1 s1 pd rd => ?_⟩
  have hH1 : H1 p = some (.lst xs) := st1.ex2 _ _ hH
  have hs1 : Hs1 p = none := st1.off p hs (by rw [hH]; exact fun z => nomatch z)
  refine ⟨p, xs, v, rfl, rfl, hH1, ?_, ?_⟩
  · rw [ra.length]
    exact Nat.lt_of_lt_of_le hl (by decide)
  · have base : Stp W.Ho W.Hb Hs1 (upd H1 p (.lst (xs ++ [v]))) := ⟨s1.stp.ex1, Ex.mut s1.stp.ex2 hb, Ex.mut s1.sub hs1, s1.stp.off⟩
    refine hn _ σ Hs1 _ (k d pd) st1.ex1 ⟨base, by rw [List.length_set, s.len], p, fun j sl o h1 h2 => ?_⟩
    rcases set_get h1 with ⟨rfl, _, rfl⟩ | ⟨ne, h1⟩
    · rw [e] at h2
      cases h2
      exact ⟨rfl, hb, hs1, _, upd_same, (ra.ex st1.ex1).append (.cons rd .nil)⟩
    · obtain ⟨P', a⟩ := s1.at_
      have q := a j sl o h1 h2
      cases sl with
      | non => trivial
      | val d => exact q
      | own es => exact absurd h1 (noOwn_ne ho ne es)
theorem sq_app {i : Nat} {ds : List Dv} {K : PySem.W.Frag} (hK : K = W.c.K) (h : δ[i]? = some (.own ds)) (ho : noOwn δ i = true) (hl : ds.length < 100000) (he : EP W te δ P) (k : ∀ d, P d → Sx W tz (δ.set i (.own (ds ++ [d]))) N R) :
    Sx W (tSeq (tDrop (tBM K "list" rAppend (tVar i) (tCons te tNil))) tz) δ N R := sx_seq (N1 := fun δ' => ∃ d, P d ∧ δ' = δ.set i (.own (ds ++ [d]))) (sx_app hK h ho hl he fun d p => ⟨d, p, rfl⟩) fun δ' ⟨d, p, e⟩ => by subst e; exact k d p
/-- extend by a new list -/
theorem sx_ext {i : Nat} {ds es : List Dv} {K : PySem.W.Frag} (hK : K = W.c.K) (h : δ[i]? = some (.own ds)) (ho : noOwn δ i = true) (hl : ds.length + es.length ≤ 100000) (he : Ev W te δ (.lst es)) (k : N (δ.set i (.own (ds ++ es)))) :
    Sx W (tDrop (tBM K "list" rExtend (tVar i) (tCons te tNil))) δ N R := fun σ Hs H s D hn hr => by
  obtain ⟨p, xs, e, hb, hs, hH, ra⟩ := s.getOwn h
  refine ⟨.ref p, e, .inl ⟨rfl, xs, .inl (.inl hH)⟩, he.run s fun v d Hs1 H1 st1 s1 pd rd => ?_⟩
  subst pd
  have hH1 : H1 p = some (.lst xs) := st1.ex2 _ _ hH
  have hs1 : Hs1 p = none := st1.off p hs (by rw [hH]; exact fun z => nomatch z)
  cases rd with
  | lst hq rq =>
    rename_i q ys
    refine ⟨p, q, xs, ys, rfl, rfl, hH1, s1.sub _ _ hq, ?_, ?_⟩
    · rw [ra.length, rq.length]
      exact len_ok hl
    · have base : Stp W.Ho W.Hb Hs1 (upd H1 p (.lst (xs ++ ys))) := ⟨s1.stp.ex1, Ex.mut s1.stp.ex2 hb, Ex.mut s1.sub hs1, s1.stp.off⟩
      refine hn _ σ Hs1 _ k st1.ex1 ⟨base, by rw [List.length_set, s.len], p, fun j sl o h1 h2 => ?_⟩
      rcases set_get h1 with ⟨rfl, _, rfl⟩ | ⟨ne, h1⟩
      · rw [e] at h2
        cases h2
        exact ⟨rfl, hb, hs1, _, upd_same, (ra.ex st1.ex1).append rq⟩
      · obtain ⟨P', a⟩ := s1.at_
        have q := a j sl o h1 h2
        cases sl with
        | non => trivial
        | val d => exact q
        | own es => exact absurd h1 (noOwn_ne ho ne es)
theorem sx_ifP {Pt : Bool → Prop} (h : TP W t δ Pt) (h1 : Pt true → Sx W ts δ N R) (h2 : Pt false → Sx W tw δ N R) : Sx W (tIfS t ts tw) δ N R := fun σ Hs H s D hn hr => h.run s fun k Hs1 H1 st1 s1 pa => by
  cases k with
  | true => exact h1 pa σ Hs1 H1 s1 D (fun a b c d x y z => hn a b c d x (st1.ex1.trans y) z) hr
  | false => exact h2 pa σ Hs1 H1 s1 D (fun a b c d x y z => hn a b c d x (st1.ex1.trans y) z) hr
theorem sx_if {k : Bool} (h : Et W t δ k) (h1 : k = true → Sx W ts δ N R) (h2 : k = false → Sx W tw δ N R) : Sx W (tIfS t ts tw) δ N R := sx_ifP h (fun e => h1 (show true = k from e).symm) (fun e => h2 (show false = k from e).symm)
theorem sq_ifP {Pt : Bool → Prop} (h : TP W t δ Pt) (h1 : Pt true → Sx W (tSeq ts tz) δ N R) (h2 : Pt false → Sx W (tSeq tw tz) δ N R) : Sx W (tSeq (tIfS t ts tw) tz) δ N R := fun σ Hs H s D hn hr => h.run s fun k Hs1 H1 st1 s1 pa => by
  cases k with
  | true => exact h1 pa σ Hs1 H1 s1 D (fun a b c d x y z => hn a b c d x (st1.ex1.trans y) z) hr
  | false => exact h2 pa σ Hs1 H1 s1 D (fun a b c d x y z => hn a b c d x (st1.ex1.trans y) z) hr
theorem sq_if {k : Bool} (h : Et W t δ k) (h1 : k = true → Sx W (tSeq ts tz) δ N R) (h2 : k = false → Sx W (tSeq tw tz) δ N R) : Sx W (tSeq (tIfS t ts tw) tz) δ N R := sq_ifP h (fun e => h1 (show true = k from e).symm) (fun e => h2 (show false = k from e).symm)
theorem sx_retP (h : EP W te δ P) (k : ∀ d, P d → R d) : Sx W (tRet te) δ N R := fun σ Hs H s D hn hr => h.run s fun v d Hs1 H1 st1 s1 pd rd => hr v d Hs1 H1 s1.stp (k d pd) rd
theorem sx_ret (h : Ev W te δ d) (k : R d) : Sx W (tRet te) δ N R := sx_retP h fun d' e => by subst e; exact k
theorem sq_ret (h : Ev W te δ d) (k : R d) : Sx W (tSeq (tRet te) tz) δ N R := fun σ Hs H s D hn hr => sx_ret (N := N) h k σ Hs H s { D with nx := fun _ _ => True } (fun _ _ _ _ _ _ _ => trivial) hr
theorem sq_retP (h : EP W te δ P) (k : ∀ d, P d → R d) : Sx W (tSeq (tRet te) tz) δ N R := fun σ Hs H s D hn hr => sx_retP (N := N) h k σ Hs H s { D with nx := fun _ _ => True } (fun _ _ _ _ _ _ _ => trivial) hr
theorem sx_dropP (h : EP W te δ P) (k : ∀ d, P d → N δ) : Sx W (tDrop te) δ N R := fun σ Hs H s D hn hr => h.run s fun v d Hs1 H1 st1 s1 pd rd => hn δ σ Hs1 H1 (k d pd) st1.ex1 s1
theorem sq_drop (h : EP W te δ P) (k : ∀ d, P d → Sx W tz δ N R) : Sx W (tSeq (tDrop te) tz) δ N R := fun σ Hs H s D hn hr => h.run s fun v d Hs1 H1 st1 s1 pd rd => k d pd σ Hs1 H1 s1 D (fun a b c d x y z => hn a b c d x (st1.ex1.trans y) z) hr
theorem sx_aug {i : Nat} {f : Int → Int → Int} {x y : Int} (hx : δ[i]? = some (.val (.int x))) (h : Ev W te δ (.int y)) (k : N (δ.set i (.val (.int (f x y))))) : Sx W (tAug i te (ipI f)) δ N R := fun σ Hs H s D hn hr => by
  obtain ⟨v, e, r⟩ := s.get hx
  cases r
  refine ⟨_, e, h.run s fun u d Hs1 H1 st1 s1 pd rd => ?_⟩
  subst pd
  cases rd
  exact ⟨x, y, rfl, rfl, hn _ _ Hs1 H1 k st1.ex1 (s1.set (.int _))⟩
/-! ### loops -/
theorem sx_for (js : List Nat) {wi : TI} {g : TG} {Py : List Dv → Prop} (hi : IP W wi δ Py) (Inv : List Dv → Nat → List Sl → Prop) (h0 : ∀ ys, Py ys → Inv ys 0 δ)
    (hs : ∀ ys i d δ', Py ys → ys[i]? = some d → Inv ys i δ' → ∃ δ2, TgD W g js d δ' δ2 ∧ Sx W ts δ2 (Inv ys (i + 1)) R) (hd : ∀ ys δ', Py ys → Inv ys ys.length δ' → N δ') : Sx W (tFor wi g ts) δ N R := fun σ Hs H s D hn hr => by
  refine hi.run s fun J ys Hs1 H1 st1 s1 py wk => ?_
  obtain ⟨G, Y, w, hG, hY⟩ := wk
  refine for_it w (fun i σ2 H2 => ∃ δ2 Hs2, Inv ys i δ2 ∧ Ex Hs1 Hs2 ∧ SD W δ2 σ2 Hs2 H2) ⟨δ, Hs1, h0 ys py, Ex.refl _, s1⟩ ?_ ?_ ?_
  · rintro i σ2 H2 hi ⟨δ2, Hs2, iv, e, s2⟩
    exact hG H2 (e.trans s2.sub)
  · rintro i x σ2 H2 H3 hi ⟨δ2, Hs2, iv, e, s2⟩ hy
    have hd' : ys[i]? = some ys[i] := List.getElem?_eq_getElem hi
    obtain ⟨Hs3, st3, rx⟩ := hY i Hs2 H2 x H3 ys[i] e s2.sub hd' hy
    obtain ⟨δ4, tg, hx⟩ := hs ys i ys[i] δ2 py hd' iv
    refine tg σ2 Hs3 H3 x (s2.step st3) rx _ fun σ4 s4 _ => ?_
    -- the stable heap at least Hs3
    exact hx σ4 Hs3 H3 s4 _ (fun δ5 σ5 Hs5 H5 iv5 e5 s5 => ⟨δ5, Hs5, iv5, (e.trans st3.ex1).trans e5, s5⟩) hr
  · rintro σ2 H2 ⟨δ2, Hs2, iv, e, s2⟩
    exact hn δ2 σ2 Hs2 H2 (hd ys δ2 py iv) (st1.ex1.trans e) s2
theorem sq_for (js : List Nat) {wi : TI} {g : TG} {Py : List Dv → Prop} (hi : IP W wi δ Py) (Inv : List Dv → Nat → List Sl → Prop) (h0 : ∀ ys, Py ys → Inv ys 0 δ)
    (hs : ∀ ys i d δ', Py ys → ys[i]? = some d → Inv ys i δ' → ∃ δ2, TgD W g js d δ' δ2 ∧ Sx W ts δ2 (Inv ys (i + 1)) R) (hd : ∀ ys δ', Py ys → Inv ys ys.length δ' → Sx W tz δ' N R) : Sx W (tSeq (tFor wi g ts) tz) δ N R :=
  sx_seq (N1 := fun δ' => ∃ ys, Py ys ∧ Inv ys ys.length δ') (sx_for js hi Inv h0 hs fun ys δ' p i => ⟨ys, p, i⟩) fun δ' ⟨ys, p, i⟩ => hd ys δ' p i
theorem sx_while (I : List Sl → Prop) (μ : List Sl → Nat) (h0 : I δ) (hs : ∀ δ', I δ' → ∃ k, Et W t δ' k ∧ (k = true → Sx W ts δ' (fun δ'' => I δ'' ∧ μ δ'' < μ δ') R) ∧ (k = false → N δ')) : Sx W (tWhile t ts) δ N R := fun σ Hs H s D hn hr => by
  refine ⟨fun m σ2 H2 => ∃ δ2 Hs2, m = μ δ2 ∧ I δ2 ∧ Ex Hs Hs2 ∧ SD W δ2 σ2 Hs2 H2, ⟨_, δ, Hs, rfl, h0, Ex.refl _, s⟩, ?_⟩
  rintro m σ2 H2 ⟨δ2, Hs2, rfl, iv, e, s2⟩
  obtain ⟨k, ht, h1, h2⟩ := hs δ2 iv
  refine ht.run s2 fun b Hs3 H3 st3 s3 pb => ?_
  subst pb
  cases b with
  | true => exact ⟨fun σ' H' => ∃ δ3 Hs4, I δ3 ∧ μ δ3 < μ δ2 ∧ Ex Hs Hs4 ∧ SD W δ3 σ' Hs4 H', fun σ' H' ⟨δ3, Hs4, i3, lt, e3, s4⟩ => ⟨_, lt, δ3, Hs4, rfl, i3, e3, s4⟩, h1 rfl σ2 Hs3 H3 s3 _ (fun δ4 σ4 Hs5 H5 n e5 s5 => ⟨δ4, Hs5, n.1, n.2, (e.trans st3.ex1).trans e5, s5⟩) hr⟩
  | false => exact hn δ2 σ2 Hs3 H3 (h2 rfl) (e.trans st3.ex1) s3
theorem sq_while (I : List Sl → Prop) (μ : List Sl → Nat) (h0 : I δ) (hs : ∀ δ', I δ' → ∃ k, Et W t δ' k ∧ (k = true → Sx W ts δ' (fun δ'' => I δ'' ∧ μ δ'' < μ δ') R) ∧ (k = false → Sx W tz δ' N R)) : Sx W (tSeq (tWhile t ts) tz) δ N R :=
  sx_seq (N1 := fun δ' => Sx W tz δ' N R) (sx_while I μ h0 hs) fun δ' h => h
end
end KD
set_option Elab.async false
set_option linter.all false
set_option maxRecDepth 100000
set_option maxHeartbeats 4000000
/-! the text by places; what a def of the text is worth; the built-ins -/
namespace KD
open PySem PySem.Spec PyProof.Rows L2
open Evl (Ex Ex.refl Ex.trans Ex.new Ex.mut ex_l ex_t fresh_back)
def topS (i : Nat) : Stmt := PySem.Challenge.pw_touchtowers_k46_whole_kinds_by_all_words.main.body.getD i (.Pass ⟨0, 0, 0, 0⟩)
structure Bl (mg : Str → Option Value) : Prop where
  b_len : mg "len" = none
  b_range : mg "range" = none
  b_enumerate : mg "enumerate" = none
  b_zip : mg "zip" = none
  b_int : mg "int" = none
  b_bool : mg "bool" = none
  b_tuple : mg "tuple" = none
  b_list : mg "list" = none
  b_str : mg "str" = none
  b_abs : mg "abs" = none
  b_max : mg "max" = none
  b_min : mg "min" = none
  b_all : mg "all" = none
  b_isinstance : mg "isinstance" = none
  b_sorted : mg "sorted" = none
section
variable {P : Program} {w : World} {K : PySem.W.Frag} {mg : Str → Option Value} {base : Heap}
/-- a def of the program's top, as it stands there -/
structure Here (K : PySem.W.Frag) (mg : Str → Option Value) (x : Str) (st : Stmt) (ps : List Str) : Prop where
  ex : ∃ f fd, Fun K x x st f fd ∧ mg x = some (.ref f) ∧ Binds K fd ps []
/-- what it is worth to its callers -/
structure Def (P : Program) (w : World) (K : PySem.W.Frag) (mg : Str → Option Value) (base : Heap) (k : Nat) (x : Str) (ps : List Str) (sp : Sp) : Prop where
  ex : ∃ f fd, FnOk P w K mg base CX0 k f fd ps sp ∧ mg x = some (.ref f) ∧ PySem.W.keepIn K (.ref f) = true ∧ Binds K fd ps []
theorem pe_def {X : Cx} {k : Nat} {x : Str} {ps : List Str} {sp : Sp} {e : Expr} {es : List Expr} {t : TA} {p pos : Pos} (D : Def X.prog X.w X.K X.mg X.base k x ps sp) (hr : Room k X.A) (hg : Gl X x) (ha : PA X (e :: es) t) (hx : Passes CX0 X E0 := by exact pass0)
    (hdb : (x == ("__debug__" : Str)) = false := by decide) (he : starEach (e :: es) X.env = (false, eval e X.env) :: starEach es X.env := by rfl) (hpl : (backTo pos (starEach es X.env)).any (·.1) = false := by rfl) :
    PE X (.Call (.Name x p) (e :: es) [] pos) (tCall sp [] E0 t) := by
  obtain ⟨f, fd, F, m, kp, b⟩ := D.ex
  exact pe_call F hr hg m kp b .nil hx ha hdb he hpl
theorem cxK {CX : CXT} {P : Program} {w : World} {K : PySem.W.Frag} {mg : Str → Option Value} {base : Heap} {N : List Str} {q : Str} {sc : Scope} {f : Addr} {cd : Value} {A : Around} {outer : List Env} {s : Shared} {H : Hp} {E : XK} : (cxOf CX P w K mg base N q sc f cd A outer s H E).nox.K = K := rfl
theorem hu64 {A : Around} {k : Nat} (hr : Room k A) : A.units + 64 < cLine := by
  have := hr.un
  omega
theorem hu65 {A : Around} {k : Nat} (hr : Room k A) : A.units + 65 < cLine := by
  have := hr.un
  omega
theorem hu0 {A : Around} {k : Nat} (hr : Room k A) : A.units < cLine := by
  have := hr.un
  omega
variable {α : Type}
/-- THE RULE, for a def of the top -/
theorem def_ok {c : Kc} {x : Str} {st : Stmt} {N ps : List Str} {k : Nat} {args : α → List Dv} {pre : α → Prop} {res : α → Dv → Prop} (F : Here K mg x st ps) (S : FnScope N ps (defScope st)) (len : ∀ a, (args a).length = ps.length)
    (hbody : ∀ (f : Addr) (cdv : Value) (A : Around) (outer : List Env) (s : Shared) (H : Hp) (E : XK), Room k (A.deeper (envOfC x (defScope st) s.heap.objs.size f cdv)) →
      ∃ t, PSs (cxOf CX0 P w K mg base N x (defScope st) f cdv A outer s H E).nox (defBody st) t ∧ ∀ (Ho : Hp) (a : α), pre a → Sx ⟨c, Ho, H⟩ t ((args a).map Sl.val ++ List.replicate (N.length - ps.length) Sl.non) (fun _ => res a .non) (res a)) :
    Def P w K mg base (k + 1) x ps (spF c args pre res) := by
  obtain ⟨f, fd, F, m, b⟩ := F.ex
  exact ⟨f, fd, fn_ok F S len (hbody f), m, F.kp, b⟩
end
end KD
set_option Elab.async false
set_option linter.all false
set_option maxRecDepth 100000
set_option maxHeartbeats 4000000
/-! rules of our own: t[::-1] of a tuple -/
namespace KD
open PySem PySem.Spec PyProof.Rows L2
open Evl (Ex Ex.refl Ex.trans Ex.new Ex.mut ex_l ex_t fresh_back)
section
variable {prog : Program} {w : World} {A : Around} {E : Value → Shared → Prop} {s : Shared}
theorem sliceApplied_back {sl : Addr} {vl vu vs : Value} {n : Nat} {Q : Int × Int × Nat → Shared → Prop} (hs : s.heap.IsSliceOf sl vl vu vs) (pl : IsPart vl none) (pu : IsPart vu none) (ps : IsPart vs (some (-1)))
    (h : Q ((n : Int) - 1, -1, n) s) : wpAny (model prog w) A (Builtin.Slice.sliceApplied (.ref sl) (pure (n : Int))) Q E s := by
  obtain ⟨os, hos, hcs, hds⟩ := id hs
  unfold Builtin.Slice.sliceApplied Builtin.Slice.sliceFields
  refine wpAny_bind (wpAny_bind (wpAny_field hos hds (x := vl) rfl (wpAny_bind (wpAny_field hos hds (x := vu) rfl (wpAny_bind (wpAny_field hos hds (x := vs) rfl (wpAny_pure ?_)))))))
  refine wpAny_bind (HT.slicePart_ ps ?_)
  show wpAny _ _ (if ((-1 : Int) == 0) = true then _ else _) _ _ s
  rw [if_neg (by decide)]
  refine wpAny_bind (HT.slicePart_ pl (wpAny_bind (HT.slicePart_ pu (wpAny_bind (wpAny_pure ?_)))))
  show wpAny _ _ (match Builtin.Slice.sliceAdjust none none (-1) (n : Int) with | (lo, hi) => pure (lo, (-1 : Int), Builtin.Slice.slicePlaces lo hi (-1))) _ _ s
  have e : Builtin.Slice.sliceAdjust none none (-1) (n : Int) = ((n : Int) - 1, -1) := rfl
  rw [e]
  show wpAny _ _ (pure (((n : Int) - 1), (-1 : Int), Builtin.Slice.slicePlaces ((n : Int) - 1) (-1) (-1))) _ _ s
  have e2 : Builtin.Slice.slicePlaces ((n : Int) - 1) (-1) (-1) = n := by
    unfold Builtin.Slice.slicePlaces
    rw [if_neg (by decide)]
    by_cases h0 : (n : Int) - 1 > -1
    · rw [if_pos h0]
      have e : ((n : Int) - 1 - -1 - 1) / (- -1) = (n : Int) - 1 := by
        rw [show (- -1 : Int) = 1 by decide, Int.ediv_one]
        omega
      rw [e]
      omega
    · rw [if_neg h0]
      omega
  rw [e2]
  exact wpAny_pure h
theorem fm_congr {α β : Type} {f g : α → Option β} : ∀ {l : List α}, (∀ k ∈ l, f k = g k) → l.filterMap f = l.filterMap g
  | [], _ => rfl
  | a :: l, h => by
    rw [List.filterMap_cons, List.filterMap_cons, h a List.mem_cons_self, fm_congr fun k hk => h k (List.mem_cons_of_mem _ hk)]
theorem pick_back (xs : Array Value) : ((List.range xs.size).filterMap fun (k : Nat) => xs[(((xs.size : Int) - 1) + (k : Int) * -1).toNat]?).toArray = xs.toList.reverse.toArray := by
  have e : (List.range xs.size).filterMap (fun (k : Nat) => xs[(((xs.size : Int) - 1) + (k : Int) * -1).toNat]?) = ((List.range xs.size).map fun k => xs.size - 1 - k).filterMap (xs[·]?) := by
    rw [List.filterMap_map]
    apply fm_congr
    intro k hk
    have := List.mem_range.mp hk
    show xs[(((xs.size : Int) - 1) + (k : Int) * -1).toNat]? = xs[xs.size - 1 - k]?
    have e : ((((xs.size : Int) - 1) + (k : Int) * -1).toNat) = xs.size - 1 - k := by omega
    rw [e]
  rw [e, PySem.W.krv_range, List.filterMap_reverse, PySem.W.krv_all]
theorem getItem_tuple_back {t sl : Addr} {items : Array Value} {vl vu vs : Value} {Q : Value → Shared → Prop} (ht : IsTup s.heap t items) (hs : s.heap.IsSliceOf sl vl vu vs) (pl : IsPart vl none) (pu : IsPart vu none) (ps : IsPart vs (some (-1)))
    (h : Q (.ref s.heap.objs.size) { s with heap := s.heap.push { cls := .type "tuple", data := .seq items.toList.reverse.toArray } })
    (hsz : items.size ≤ sizeLine) : wpAny (model prog w) A (getItem (.ref t) (.ref sl)) Q E s := by
  have htake : sizeOk (.seq items.toList.reverse.toArray) := by
    show items.toList.reverse.toArray.size ≤ sizeLine
    rw [List.size_toArray, List.length_reverse, Array.length_toList]
    exact hsz
  obtain ⟨os, hos, hcs, hds⟩ := id hs
  have hTs : s.TypeIs (.ref sl) "slice" := ⟨os, hos, hcs⟩
  unfold getItem
  try with_reducible refine wpAny_holding ?_
  first | refine wpAny_bind (wpAny_pure ?_) | skip
  refine wpAny_bind (wpAny_sequenceKey ht.typeIs (by decide) ?_)
  refine wpAny_bind (wpAny_callSpecial?_slot (name := Str.ofString "__getitem__") ht.typeIs PyProof.Rows.slot_tuple_getitem
    (wpAny_call_entry PyProof.Rows.slot_tuple_getitem ht.typeIs entry_tuple_getitem ?_ (args_tuple_getitem _ _)))
  show wpAny _ _ (Builtin.Tuple.tupleItemsOf (.ref t) >>= _) _ _ s
  refine wpAny_bind (tupleItemsOf_ ht ?_)
  refine wpAny_bind (wpAny_typeOf hTs ?_)
  rw [if_pos (by decide)]
  refine wpAny_bind (sliceApplied_back (n := items.size) hs pl pu ps ?_)
  have hno : ¬ ((((items.size : Int) - 1) == 0 && (-1 : Int) == 1 && items.size == items.size) = true) := by
    intro q
    rw [Bool.and_eq_true, Bool.and_eq_true] at q
    exact absurd q.1.2 (by decide)
  show wpAny _ _ (if (((items.size : Int) - 1) == 0 && (-1 : Int) == 1 && items.size == items.size) = true then _ else _) _ _ s
  rw [if_neg hno, pick_back]
  first
    | exact wpAny_bind (m := Builtin.Tuple.tupleExact _) (wpAny_newObj_type (wpAny_pure ⟨_, rfl, wpAny_pure h⟩) htake)
    | exact wpAny_bind (m := Builtin.Tuple.tupleExact _) (wpAny_newObj_type (wpAny_bind (wpAny_pure (wpAny_pure ⟨_, rfl, wpAny_pure h⟩))) htake)
    | exact wpAny_bind (wpAny_bind (m := Builtin.Tuple.tupleExact _) (wpAny_newObj_type (wpAny_pure (wpAny_pure ⟨_, rfl, wpAny_pure h⟩)) htake))
    | exact wpAny_bind (wpAny_bind (m := Builtin.Tuple.tupleExact _) (wpAny_newObj_type (wpAny_pure ⟨_, rfl, wpAny_pure h⟩) htake))
end
section
variable {X : Cx}
def tRevT (K : PySem.W.Frag) (te : TE) : TE := fun σ H Q => te σ H fun x H1 => ∃ a xs, x = .ref a ∧ SqT K H1 a xs ∧ ∀ p, H1 p = none → Q (.ref p) (upd H1 p (.tup xs.reverse))
theorem pe_revT {e : Expr} {te : TE} {k : Nat} {p1 p2 p3 pos : Pos} (he : PE X e te) : PE X (.Subscript e (.Slice none none (some (.UnaryOp .USub (.Constant (.int 1) k p1) p2)) p3) pos) (tRevT X.K te) := by
  refine ⟨fun pins s σ H Q I h => ?_⟩
  refine Subscript_ (thn (he.run pins s σ H _ I h) fun v s1 ⟨x, H1, I1, r1, q1⟩ => ?_)
  obtain ⟨a, xs, ex, hx, q⟩ := q1
  subst ex
  cases r1
  have hst : PO X (some (.UnaryOp .USub (.Constant (.int 1) k p1) p2)) (tPart (tUn (rU fun i => .int (-i)) (tC (.int 1)))) := po_some (pe_un un_neg pe_int)
  refine wpAny_Slice (thn (po_none.run pins s1 σ H1 (fun o H2 => o = none ∧ H2 = H1) I1 ⟨rfl, rfl⟩) fun vl s2 ⟨l, H2, I2, pl, el, e2⟩ => ?_)
  subst el e2
  refine thn (po_none.run pins s2 σ H2 (fun o H3 => o = none ∧ H3 = H2) I2 ⟨rfl, rfl⟩) fun vu s3 ⟨u, H3, I3, pu, eu, e3⟩ => ?_
  subst eu e3
  refine thn (hst.run pins s3 σ H3 (fun o H4 => o = some (-1) ∧ H4 = H3) I3 ⟨1, rfl, -1, rfl, rfl, rfl⟩) fun vs s4 ⟨o, H4, I4, ps, eo, e4⟩ => ?_
  subst eo e4
  have I5 : Inv X pins σ H4 { s4 with heap := s4.heap.push { cls := .type "slice", data := .fields #[vl, vu, vs] } } := I4.kept (t' := s4.toks) fun b ob q => Heap.get?_push_of_some _ q
  obtain ⟨its, r, ht, hz⟩ := I5.tuple hx
  have hlen := r.length
  show wpAny (model X.prog X.w) X.A (subscriptTail e (.Slice none none (some (.UnaryOp .USub (.Constant (.int 1) k p1) p2)) p3) (.ref a) (.ref s4.heap.objs.size)) (L2.EP X pins σ Q) X.xe { s4 with heap := s4.heap.push { cls := .type "slice", data := .fields #[vl, vu, vs] } }
  refine tail_any (ops := [.ref a, .ref s4.heap.objs.size]) ht.typeIs (PyProof.Rows.slot_tuple_getitem.lookup) ?_ (by with_unfolding_all rfl)
  refine getItem_tuple_back ht (Heap.IsSliceOf.new _ vl vu vs) pl pu ps ?_ (by rw [List.size_toArray]; omega)
  refine ⟨.ref _, _, I5.laid (t' := s4.toks) (o := .tup xs.reverse) (fun b ob q => Heap.get?_push_of_some _ q) (Nat.le_refl _) ?_, rfl, q _ (I5.hok.fresh (Nat.le_refl _))⟩
  refine ⟨by rw [List.length_reverse]; omega, its.reverse, r.reverse, ?_⟩
  have z := IsTup.new (h := s4.heap.push { cls := .type "slice", data := .fields #[vl, vu, vs] }) its.reverse.toArray
  exact z
end
section
variable {W : Wc} {δ : List Sl} {te : TE}
theorem ev_revT {l : List Dv} (h : Ev W te δ (.tup l)) : Ev W (tRevT W.c.K te) δ (.tup l.reverse) := fun σ Hs H s Q q =>
  h.run s fun v d Hs1 H1 st1 s1 pa ra => by
    subst pa
    cases ra with
    | tup ha r =>
      exact ⟨_, _, rfl, ex_t st1.sub ha, fun p hp => q _ _ _ _ (st1.trans (Stp.new st1.sub hp)) rfl (.tup (.inl (.inl upd_same)) (r.reverse.ex (Ex.new (fresh_back st1.sub hp))))⟩
end
end KD
set_option Elab.async false
set_option linter.all false
set_option maxRecDepth 100000
set_option maxHeartbeats 4000000
/-! rules of our own: enumerate(tuple), zip(list, tuple), x in a tuple of tuples -/
namespace PySem
set_option maxHeartbeats 4000000 in
theorem meets_enumerate_newT (l : Addr) (items : Array Value) :
    Meets (Builtin.«enumerate.__new__» ⟨[.type "enumerate", .ref l], []⟩) (fun _ R s => s.heap.IsTuple l items ∧
      R (.ok (.ret (.ref (s.heap.push { cls := .type "tuple_iterator", data := .fields #[.ref l, .int 0 0] }).objs.size)))
        { s with heap := (s.heap.push { cls := .type "tuple_iterator", data := .fields #[.ref l, .int 0 0] }).push { cls := .type "enumerate", data := .fields #[.none, .bool false, .ref s.heap.objs.size, rawInt 0, .none, .none] } }) :=
  .of_wp fun prog w A R s h => by
    obtain ⟨hp, g, d, tk, os⟩ := s; obtain ⟨h1, h⟩ := h
    have hsub := sub_enumerate
    have q1 : ∀ {A' : Around} {E : Value → Shared → Prop} {Q : Value → Shared → Prop}, Q (.ref hp.objs.size) ⟨hp.push { cls := .type "tuple_iterator", data := .fields #[.ref l, .int 0 0] }, g, d, tk, os⟩ → wpAny (model prog w) A' (pyIter (.ref l)) Q E ⟨hp, g, d, tk, os⟩ :=
      fun q => (begins_tuple l items).iter prog w _ _ ⟨hp, g, d, tk, os⟩ _ h1 q
    wp_walk using q1
    refine wpAny_stack_any fun st => wpAny_pure ?_
    split
    · rename_i c _ _ _ _ _
      cases (c == Value.type "enumerate")
      · wp_walk using q1
        exact ⟨_, rfl, h⟩
      · wp_walk using q1
        exact ⟨_, rfl, h⟩
    · wp_walk using q1
      exact ⟨_, rfl, h⟩
section
variable {prog : Program} {w : World} {A : Around} {E : Value → Shared → Prop} {s : Shared}
theorem call_enumerate_tup {l : Addr} {items : Array Value} {Q : Value → Shared → Prop} (hL : s.heap.IsTuple l items)
    (h : ∀ h', IsEnum h' (s.heap.objs.size + 1) s.heap.objs.size 0 .none → h'.IsTupleIter s.heap.objs.size l 0 → h'.objs.size = s.heap.objs.size + 2 →
      (∀ b o, s.heap.get? b = some o → h'.get? b = some o) → Q (.ref (s.heap.objs.size + 1)) { s with heap := h' }) :
    wpAny (model prog w) A (call (.type "enumerate") [.ref l]) Q E s := by
  refine callType_new F.called_enumerate (by decide) (F.typeCall_enumerate_1 _) (F.newCall_enumerate_1 _) (fun obj => F.args_object_init_2 obj _) F.entry_enumerate_new
    (meets_enumerate_newT l items) ⟨hL, ?_⟩
  have hz : (s.heap.push { cls := .type "tuple_iterator", data := .fields #[.ref l, .int 0 0] }).objs.size = s.heap.objs.size + 1 := Heap.size_push ..
  show _ ∧ _
  rw [hz]
  have he : IsEnum ((s.heap.push { cls := .type "tuple_iterator", data := .fields #[.ref l, .int 0 0] }).push
      { cls := .type "enumerate", data := .fields #[.none, .bool false, .ref s.heap.objs.size, rawInt 0, .none, .none] }) (s.heap.objs.size + 1) s.heap.objs.size 0 .none := by
    have := Heap.get?_push_size (s.heap.push { cls := .type "tuple_iterator", data := .fields #[.ref l, .int 0 0] })
      (o := { cls := .type "enumerate", data := .fields #[.none, .bool false, .ref s.heap.objs.size, rawInt 0, .none, .none] }) rfl
    rw [hz] at this; exact this
  refine ⟨⟨_, he, rfl⟩, h _ he ⟨_, Heap.get?_push_of_some _ (Heap.get?_push_size _ rfl), rfl, rfl⟩ (by rw [Heap.size_push, hz]) fun b o x => Heap.get?_push_of_some _ (Heap.get?_push_of_some _ x)⟩
end
end PySem
namespace KD
open PySem PySem.Spec PyProof.Rows L2
open Evl (Ex Ex.refl Ex.trans Ex.new Ex.mut ex_l ex_t fresh_back)
/-- enumerate(tuple) -/
def IteT (K : PySem.W.Frag) (a : Addr) : It :=
  ⟨fun i H => ∃ (xs : List V) (x : V), SqT K H a xs ∧ xs[i]? = some x, fun i H v H' => ∃ T x, v = .ref T ∧ H T = none ∧ H' = upd H T (.tup [.int (i : Nat), x]) ∧ ∀ xs, SqT K H a xs → xs[i]? = some x, fun i H => ∃ xs : List V, SqT K H a xs ∧ xs.length = i⟩
theorem turn_enumT {P : Program} {w : World} {K : PySem.W.Frag} {elts : List Expr} {kk : Nat} {tpos : Pos} (a e it : Addr) :
    Turn P w K (.Tuple elts kk tpos) (IteT K a) [e, it] e (fun i h => (∃ old, IsEnum h e it ((i : Nat) : Int) old) ∧ h.IsTupleIter it a i ∧ e ≠ it ∧ e ≠ a ∧ a ≠ it) where
  mem := by simp
  obj := fun i h st b hb => by
    obtain ⟨⟨old, he⟩, ⟨o, ho, hc, hd⟩, _⟩ := st
    have e' : b = e ∨ b = it := by simpa using hb
    rcases e' with z | z
    · rw [z]; exact ⟨_, he, fun v q => nomatch q⟩
    · rw [z]; exact ⟨o, ho, fun v q => by rw [hd] at q; cases q⟩
  keep := fun i h h' st k => let ⟨⟨old, he⟩, hi, hne⟩ := st; ⟨⟨old, k e (by simp) _ he⟩, hi.at fun o q => k it (by simp) o q, hne⟩
  item := by
    intro X hP hw hK hc i pins s σ H E I hf st hg
    subst hP hw hK
    obtain ⟨⟨old, he⟩, hit, hne, hea, hai⟩ := st
    obtain ⟨xs, x, hq, hx⟩ := hg
    obtain ⟨its, rv, p, hz⟩ := I.tuple hq
    obtain ⟨u, hu, ru⟩ := rv.get hx
    have hel : e < s.heap.objs.size := Heap.lt_size he
    have hil : it < s.heap.objs.size := by obtain ⟨_, q, _⟩ := hit; exact Heap.lt_size q
    have D := Draws.tuple (prog := X.prog) (w := X.w) (A := X.A.in1) (I.ok.hd hc) it a hai its.toArray
    have hlt : i < its.toArray.size := by
      have hu' : its.toArray[i]? = some u := by simpa using hu
      exact (Array.getElem?_eq_some_iff.mp hu').1
    refine wpAny_pyNext_enum_itemC D he ⟨hit, (show s.heap.IsTuple a its.toArray from p)⟩ hlt hne (by simp [hne, hea]) fun y h' tk hy ho hst hT hsz hk => ?_
    have hyu : y = u := by
      have hu' : its.toArray[i]? = some u := by simpa using hu
      rw [hu'] at hy
      exact (Option.some.inj hy).symm
    subst hyu
    have hit' := hst.1
    refine ⟨_, rfl, wpAny_letOwnedTupleGo_enum (s := { s with heap := h', toks := tk + 1 }) ho fun h'' he' sb => ?_⟩
    have hT2 : h''.get? s.heap.objs.size = some { cls := .type "tuple", data := .seq #[.int i tk, y] } := (sb.2 _ (Nat.ne_of_gt hel)).trans hT
    have new : ObjOk X.prog X.w (upd H s.heap.objs.size (.tup [.int (i : Nat), x])) h'' s.heap.objs.size (.tup [.int (i : Nat), x]) :=
      ⟨by show 2 ≤ sizeLine; decide, [.int i tk, y], .cons ⟨_, rfl⟩ (.cons ru .nil), ⟨_, hT2, rfl, _, rfl⟩⟩
    have I1 : Inv X pins σ (upd H s.heap.objs.size (.tup [.int (i : Nat), x])) { s with heap := h'', toks := tk + 1 } :=
      I.turnedNew (ch := [e, it]) (fun b ob hb q => (sb.2 b (fun z => hb (by simp [z]))).trans (hk b ob (fun z => hb (by simp [z])) (fun z => hb (by simp [z])) q)) hf (Nat.le_refl _) new
    refine ⟨.ref s.heap.objs.size, _, I1, rfl, ⟨_, x, rfl, I.hok.fresh (Nat.le_refl _), rfl, fun ys hy => by rw [I.tuple_inj hy hq]; exact hx⟩, ⟨⟨y, ?_⟩, hit'.at fun o q => (sb.2 it (Ne.symm hne)).trans q, hne, hea, hai⟩, fun b hb => ?_⟩
    · have e1 : ((i + 1 : Nat) : Int) = (i : Int) + 1 := by omega
      rw [e1]; exact he'
    · have hb' : b < s.heap.objs.size := by
        have e' : b = e ∨ b = it := by simpa using hb
        rcases e' with z | z
        · rw [z]; exact hel
        · rw [z]; exact hil
      rw [upd_ne (Nat.ne_of_lt hb')]
      exact (hf b hb).1
  done := by
    intro X hP hw hK hc i pins s σ H E I hf st hg
    subst hP hw hK
    obtain ⟨⟨old, he⟩, hit, hne, hea, hai⟩ := st
    obtain ⟨xs, hq, hx⟩ := hg
    obtain ⟨its, rv, p, hz⟩ := I.tuple hq
    have hl := rv.length
    have D := Draws.tuple (prog := X.prog) (w := X.w) (A := X.A.in1) (I.ok.hd hc) it a hai its.toArray
    have hsz : its.toArray.size = i := by simp; omega
    obtain ⟨f0, f1, f2, f3, f4, f5⟩ := hf it (by simp)
    refine wpAny_pyNext_enum_endD D he (by rw [hsz]; exact ⟨hit, (show s.heap.IsTuple a its.toArray from p)⟩) fun h' eb => ⟨rfl, I.turned (t' := s.toks) (fun b o hb q => eb b o hb q) f0 f1 f3 f4 f5⟩
  self := fun A i s Q E st h => let ⟨⟨_, he⟩, _⟩ := st; wpAny_pyIter_enum he h
def iEnumT (K : PySem.W.Frag) (ta : TA) : TI := fun σ H R => ta σ H fun vs H1 => ∃ a xs, vs = [.ref a] ∧ SqT K H1 a xs ∧ R (IteT K a) H1
theorem pi_enumT {X : Cx} {e : Expr} {ta : TA} {p pos tpos : Pos} {elts : List Expr} {kk : Nat} (hg : Gl X "enumerate") (hm : X.mg "enumerate" = none) (ha : PA X [e] ta) (hs : starEach [e] X.env = [(false, eval e X.env)] := by rfl) :
    PI X (.Tuple elts kk tpos) (.Call (.Name "enumerate" p) [e] [] pos) (iEnumT X.K ta) := by
  refine ⟨fun pins s σ H R I h => ?_⟩
  refine Call_ (ld_blt I hg hm boot_enumerate (PyProof.Rows.callWith_type1 (thn (ha.run pos pins s σ H _ I h) fun us s1 ⟨vs, H1, I1, r1, q1⟩ => ?_) hs rfl))
  obtain ⟨a, xs, ex, hq, q⟩ := q1
  subst ex
  cases r1 with
  | cons r rr =>
    cases rr
    cases r
    obtain ⟨its, rv, p', hz⟩ := I1.tuple hq
    have hal : a < s1.heap.objs.size := by obtain ⟨_, q, _⟩ := p'; exact Heap.lt_size q
    refine call_enumerate_tup (show s1.heap.IsTuple a its.toArray from p') fun h' he hit hsz hk => wpAny_pyIter_enum he ?_
    have I2 : Inv X pins σ H1 { s1 with heap := h' } := I1.kept (t' := s1.toks) hk
    refine ⟨s1.heap.objs.size + 1, [s1.heap.objs.size + 1, s1.heap.objs.size], _, _, H1, rfl, I2, turn_enumT a (s1.heap.objs.size + 1) s1.heap.objs.size, ⟨⟨.none, he⟩, hit, Nat.succ_ne_self _, Nat.ne_of_gt (Nat.lt_succ_of_lt hal), Nat.ne_of_lt hal⟩, fun b hb => ?_, q⟩
    have e' : b = s1.heap.objs.size + 1 ∨ b = s1.heap.objs.size := by simpa using hb
    have hle : s1.heap.objs.size ≤ b := by
      rcases e' with z | z
      · rw [z]; exact Nat.le_add_right _ _
      · rw [z]; exact Nat.le_refl _
    have i1 := I1.fpOk hle (I1.hok.fresh hle)
    exact i1
theorem walk_enumT {K : PySem.W.Frag} {a : Addr} {xs : List V} : Walk (IteT K a) xs.length (fun H => SqT K H a xs) (YPair (fun i => some (.int (i : Nat))) (fun i => xs[i]?)) := by
  refine ⟨fun i _ hi q => ⟨xs, xs[i], q, by simp [hi]⟩, fun _ q => ⟨xs, q, rfl⟩, fun i H v H' _ q y => ?_⟩
  obtain ⟨T, x, h1, h2, h3, h4⟩ := y
  exact ⟨T, .int (i : Nat), x, h1, h2, h3, rfl, h4 xs q⟩
section
variable {W : Wc} {δ : List Sl}
theorem iv_enumT {tq : TA} {l : List Dv} (h : Ea W tq δ [.tup l]) : Iv W (iEnumT W.c.K tq) δ (enumD 0 l) := fun σ Hs H s R q => h.run s fun vs ds Hs1 H1 st1 s1 pa ra => by
  subst pa
  cases ra with
  | cons r1 r2 =>
    cases r2
    cases r1 with
    | tup ha rr =>
      rename_i ad xs
      refine ⟨ad, xs, rfl, ex_t s1.sub ha, q _ _ Hs1 H1 st1 rfl ⟨fun H => SqT W.c.K H ad xs, _, (by rw [enumD_len, ← rr.length]; exact walk_enumT (K := W.c.K) (a := ad) (xs := xs)), fun H' e => ex_t e ha, fun i Hs2 H2 x H3 d e1 e2 hd hy => ?_⟩⟩
      obtain ⟨T, x1, y1, rfl, hT, rfl, hx, hy⟩ := hy
      cases hx
      obtain ⟨d', hd', rfl⟩ := enumD_get hd
      obtain ⟨v, hv, rv⟩ := rr.get hd'
      have hy' : xs[i]? = some y1 := hy
      rw [hy'] at hv
      cases hv
      have := rp_pair (c := W.c) e2 hT (.int ((i : Nat) : Int)) (rv.ex e1)
      simpa using this
end
/-! ### zip(list, tuple) -/
def ItzM (K : PySem.W.Frag) (a b : Addr) : It :=
  ⟨fun i H => ∃ (xs ys : List V) (x y : V), SqL K H a xs ∧ SqT K H b ys ∧ xs[i]? = some x ∧ ys[i]? = some y,
    fun i H v H' => ∃ T x y, v = .ref T ∧ H T = none ∧ H' = upd H T (.tup [x, y]) ∧ (∀ xs, SqL K H a xs → xs[i]? = some x) ∧ ∀ ys, SqT K H b ys → ys[i]? = some y,
    fun i H => ∃ xs ys : List V, SqL K H a xs ∧ SqT K H b ys ∧ xs.length = i ∧ ys.length ≥ i⟩
theorem turn_zipM {P : Program} {w : World} {K : PySem.W.Frag} {elts : List Expr} {kk : Nat} {tpos : Pos} {a b z TI TO i1 i2 : Addr} (S : ZipSep2 z TI TO i1 i2 [i1, a] [i2, b]) (ha1 : a ≠ i1) (hb2 : b ≠ i2) :
    Turn P w K (.Tuple elts kk tpos) (ItzM K a b) [z, TI, TO, i1, i2] z (fun i h => IsZip h z TI TO .none ∧ IsTupOf2 h TI (.ref i1) (.ref i2) ∧ (∃ x y, IsTupOf2 h TO x y) ∧ h.IsListIter i1 a i ∧ h.IsTupleIter i2 b i) where
  mem := by simp
  obj := fun i h st c hc => by
    obtain ⟨hz, hTI, ⟨x, y, hTO⟩, ⟨o1, e1, _, d1⟩, ⟨o2, e2, _, d2⟩⟩ := st
    have e' : c = z ∨ c = TI ∨ c = TO ∨ c = i1 ∨ c = i2 := by simpa using hc
    rcases e' with q | q | q | q | q
    · rw [q]; exact ⟨_, hz, fun v q => nomatch q⟩
    · rw [q]; exact ⟨_, hTI, fun v q => nomatch q⟩
    · rw [q]; exact ⟨_, hTO, fun v q => nomatch q⟩
    · rw [q]; exact ⟨o1, e1, fun v q => by rw [d1] at q; cases q⟩
    · rw [q]; exact ⟨o2, e2, fun v q => by rw [d2] at q; cases q⟩
  keep := fun i h h' st k => by
    obtain ⟨hz, hTI, ⟨x, y, hTO⟩, h1, h2⟩ := st
    exact ⟨k z (by simp) _ hz, k TI (by simp) _ hTI, ⟨x, y, k TO (by simp) _ hTO⟩, h1.at fun o q => k i1 (by simp) o q, h2.at fun o q => k i2 (by simp) o q⟩
  item := by
    intro X hP hw hK hc i pins s σ H E I hf st hg
    subst hP hw hK
    obtain ⟨hz, hTI, ⟨x0, y0, hTO⟩, h1, h2⟩ := st
    obtain ⟨xs, ys, x, y, hqx, hqy, hx, hy⟩ := hg
    obtain ⟨its, rv, p, _⟩ := I.list hqx
    obtain ⟨its2, rv2, p2, _⟩ := I.tuple hqy
    obtain ⟨u, hu, ru⟩ := rv.get hx
    obtain ⟨u2, hu2, ru2⟩ := rv2.get hy
    have hzl : z < s.heap.objs.size := Heap.lt_size hz
    have D1 := Draws.list (prog := X.prog) (w := X.w) (A := X.A.in1) (I.ok.hd hc) i1 a ha1 its.toArray
    have D2 := Draws.tuple (prog := X.prog) (w := X.w) (A := X.A.in1) (I.ok.hd hc) i2 b hb2 its2.toArray
    have hu' : its.toArray[i]? = some u := by simpa using hu
    have hu2' : its2.toArray[i]? = some u2 := by simpa using hu2
    refine wpAny_pyNext_zipD2_item S D1 D2 hz hTI hTO ⟨h1, p.isList⟩ ⟨h2, (show s.heap.IsTuple b its2.toArray from p2)⟩ (Array.getElem?_eq_some_iff.mp hu').1 (Array.getElem?_eq_some_iff.mp hu2').1 fun v1 v2 h' tk e1 e2 z' TO' s1' s2' hT hsz hk => ?_
    have ev1 : v1 = u := by
      rw [hu'] at e1
      exact (Option.some.inj e1).symm
    have ev2 : v2 = u2 := by
      rw [hu2'] at e2
      exact (Option.some.inj e2).symm
    subst ev1
    subst ev2
    refine ⟨_, rfl, wpAny_letOwnedTupleGo_zip (s := { s with heap := h', toks := tk }) z' fun h'' z'' sb => ?_⟩
    have hT2 : h''.get? s.heap.objs.size = some { cls := .type "tuple", data := .seq #[v1, v2] } := (sb.2 _ (Nat.ne_of_gt hzl)).trans hT
    have new : ObjOk X.prog X.w (upd H s.heap.objs.size (.tup [x, y])) h'' s.heap.objs.size (.tup [x, y]) :=
      ⟨by show 2 ≤ sizeLine; decide, [v1, v2], .cons ru (.cons ru2 .nil), ⟨_, hT2, rfl, _, rfl⟩⟩
    have I1 : Inv X pins σ (upd H s.heap.objs.size (.tup [x, y])) { s with heap := h'', toks := tk } :=
      I.turnedNew (t' := tk) (ch := [z, TI, TO, i1, i2]) (fun c o hb q => (sb.2 c (fun q' => hb (by simp [q']))).trans (hk c o (fun q' => hb (by simp [q'])) (fun q' => hb (by simp [q'])) (fun q' => hb (by simp [q'])) (fun q' => hb (by simp [q'])) q)) hf (Nat.le_refl _) new
    refine ⟨.ref s.heap.objs.size, _, I1, rfl, ⟨_, x, y, rfl, I.hok.fresh (Nat.le_refl _), rfl, fun l hl => by rw [I.list_inj hl hqx]; exact hx, fun l hl => by rw [I.tuple_inj hl hqy]; exact hy⟩, ⟨z'', ?_, ⟨v1, v2, ?_⟩, ?_, ?_⟩, fun c hcm => ?_⟩
    · exact (sb.2 _ S.TIz).trans (hk _ _ S.TIz S.TITO S.TIi1 S.TIi2 hTI)
    · exact (sb.2 _ S.TOz).trans TO'
    · exact s1'.1.at fun o q => (sb.2 _ (Ne.symm S.zi1)).trans q
    · exact s2'.1.at fun o q => (sb.2 _ (Ne.symm S.zi2)).trans q
    · have hlt : c < s.heap.objs.size := by
        have e' : c = z ∨ c = TI ∨ c = TO ∨ c = i1 ∨ c = i2 := by simpa using hcm
        rcases e' with q | q | q | q | q
        · rw [q]; exact hzl
        · rw [q]; exact Heap.lt_size hTI
        · rw [q]; exact Heap.lt_size hTO
        · rw [q]; obtain ⟨_, e1, _⟩ := h1; exact Heap.lt_size e1
        · rw [q]; obtain ⟨_, e2, _⟩ := h2; exact Heap.lt_size e2
      rw [upd_ne (Nat.ne_of_lt hlt)]
      exact (hf c hcm).1
  done := by
    intro X hP hw hK hc i pins s σ H E I hf st hg
    subst hP hw hK
    obtain ⟨hz, hTI, ⟨x0, y0, hTO⟩, h1, h2⟩ := st
    obtain ⟨xs, ys, hqx, hqy, he1, he2⟩ := hg
    obtain ⟨its, rv, p, _⟩ := I.list hqx
    obtain ⟨its2, rv2, p2, _⟩ := I.tuple hqy
    have l1 := rv.length
    have l2 := rv2.length
    have D1 := Draws.list (prog := X.prog) (w := X.w) (A := X.A.in1) (I.ok.hd hc) i1 a ha1 its.toArray
    have D2 := Draws.tuple (prog := X.prog) (w := X.w) (A := X.A.in1) (I.ok.hd hc) i2 b hb2 its2.toArray
    have n1 : its.toArray.size = its.length := by simp
    have n2 : its2.toArray.size = its2.length := by simp
    exact wpAny_pyNext_zipD2_end S D1 D2 hz hTI hTO ⟨h1, p.isList⟩ ⟨h2, (show s.heap.IsTuple b its2.toArray from p2)⟩ (by omega) (by omega) (by left; omega) fun h' tk hk => ⟨rfl, I.turnedL (t' := tk) (ch := [z, TI, TO, i1, i2]) (fun c o hb q =>
      hk c o (fun q' => hb (by simp [q'])) (fun q' => hb (by simp [q'])) (fun q' => hb (by simp [q'])) (fun q' => hb (by simp [q'])) q) hf⟩
  self := fun A i s Q E st h => wpAny_pyIter_zip st.1 h
def iZipM (K : PySem.W.Frag) (ta : TA) : TI := fun σ H R => ta σ H fun vs H1 => ∃ a b xs ys, vs = [.ref a, .ref b] ∧ SqL K H1 a xs ∧ SqT K H1 b ys ∧ R (ItzM K a b) H1
theorem pi_zipM {X : Cx} {e e2 : Expr} {ta : TA} {p pos tpos : Pos} {elts : List Expr} {kk : Nat} (hg : Gl X "zip") (hm : X.mg "zip" = none) (ha : PA X [e, e2] ta)
    (hs : starEach [e, e2] X.env = (false, eval e X.env) :: starEach [e2] X.env := by rfl) (hpl : (backTo pos (starEach [e2] X.env)).any (·.1) = false := by rfl) :
    PI X (.Tuple elts kk tpos) (.Call (.Name "zip" p) [e, e2] [] pos) (iZipM X.K ta) := by
  refine ⟨fun pins s σ H R I h => ?_⟩
  refine Call_ (ld_blt I hg hm PyProof.Rows.boot_zip (PyProof.Rows.callWith_type1 (thn (ha.run pos pins s σ H _ I h) fun us s1 ⟨vs, H1, I1, r1, q1⟩ => ?_) hs hpl))
  obtain ⟨a, b, xs, ys, ex, hqx, hqy, q⟩ := q1
  subst ex
  cases r1 with
  | cons r rr =>
    cases rr with
    | cons r' rr =>
      cases rr
      cases r
      cases r'
      have fresh5 : ∀ c, c ∈ [s1.heap.objs.size + 4, s1.heap.objs.size + 2, s1.heap.objs.size + 3, s1.heap.objs.size, s1.heap.objs.size + 1] → FpOk X pins H1 c := fun c hcm => by
        have e' : c = s1.heap.objs.size + 4 ∨ c = s1.heap.objs.size + 2 ∨ c = s1.heap.objs.size + 3 ∨ c = s1.heap.objs.size ∨ c = s1.heap.objs.size + 1 := by simpa using hcm
        have hle : s1.heap.objs.size ≤ c := by
          rcases e' with z | z | z | z | z
          · rw [z]; exact Nat.le_add_right _ _
          · rw [z]; exact Nat.le_add_right _ _
          · rw [z]; exact Nat.le_add_right _ _
          · rw [z]; exact Nat.le_refl _
          · rw [z]; exact Nat.le_add_right _ _
        exact I1.fpOk hle (I1.hok.fresh hle)
      obtain ⟨its, rv, p1, _⟩ := I1.list hqx
      obtain ⟨its2, rv2, p2, _⟩ := I1.tuple hqy
      have hal : a < s1.heap.objs.size := p1.lt
      have hbl : b < s1.heap.objs.size := by obtain ⟨_, q, _⟩ := p2; exact Heap.lt_size q
      refine zip_begins2 (begins_list a its.toArray) (begins_tuple b its2.toArray) p1.isList (show s1.heap.IsTuple b its2.toArray from p2) fun h' hz hTI hTO h1 h2 hsz hk => wpAny_pyIter_zip hz ?_
      have I2 : Inv X pins σ H1 { s1 with heap := h' } := I1.kept (t' := s1.toks) hk
      refine ⟨s1.heap.objs.size + 4, [s1.heap.objs.size + 4, s1.heap.objs.size + 2, s1.heap.objs.size + 3, s1.heap.objs.size, s1.heap.objs.size + 1], _, _, H1, rfl, I2, turn_zipM (a := a) (b := b) (zip_sep2 (N := s1.heap.objs.size) (fun c hcm => ?_) (fun c hcm => ?_)) (Nat.ne_of_lt hal) (Nat.ne_of_lt (Nat.lt_succ_of_lt hbl)), ⟨hz, hTI, ⟨_, _, hTO⟩, ⟨_, h1, rfl, rfl⟩, ⟨_, h2, rfl, rfl⟩⟩, fresh5, q⟩
      · rw [List.mem_singleton.mp hcm]; exact hal
      · rw [List.mem_singleton.mp hcm]; exact hbl
theorem walk_zipM {K : PySem.W.Frag} {a b : Addr} {xs ys : List V} (hl : xs.length ≤ ys.length) : Walk (ItzM K a b) xs.length (fun H => SqL K H a xs ∧ SqT K H b ys) (YPair (fun i => xs[i]?) (fun i => ys[i]?)) := by
  refine ⟨fun i _ hi q => ?_, fun _ q => ⟨xs, ys, q.1, q.2, rfl, hl⟩, fun i H v H' _ q y => ?_⟩
  · have h2 : i < ys.length := by omega
    exact ⟨xs, ys, xs[i], ys[i], q.1, q.2, by simp [hi], by simp [h2]⟩
  · obtain ⟨T, x, z, h1, h2, h3, h4, h5⟩ := y
    exact ⟨T, x, z, h1, h2, h3, h4 xs q.1, h5 ys q.2⟩
/-- pairs of both -/
def zipD : List Dv → List Dv → List Dv
  | x :: xs, y :: ys => .tup [x, y] :: zipD xs ys
  | _, _ => []
theorem zipD_len : ∀ (xs ys : List Dv), xs.length ≤ ys.length → (zipD xs ys).length = xs.length
  | [], ys, _ => by cases ys <;> rfl
  | x :: xs, [], h => by simp at h
  | x :: xs, y :: ys, h => congrArg (· + 1) (zipD_len xs ys (by simpa using h))
theorem zipD_get : ∀ {xs ys : List Dv} {i : Nat} {e : Dv}, (zipD xs ys)[i]? = some e → ∃ x y, xs[i]? = some x ∧ ys[i]? = some y ∧ e = .tup [x, y]
  | [], ys, i, e, h => by cases ys <;> simp [zipD] at h
  | x :: xs, [], i, e, h => by simp [zipD] at h
  | x :: xs, y :: ys, 0, e, h => by
    simp [zipD] at h
    exact ⟨x, y, rfl, rfl, h.symm⟩
  | x :: xs, y :: ys, i + 1, e, h => by
    have h' : (zipD xs ys)[i]? = some e := by simpa [zipD] using h
    obtain ⟨x', y', h1, h2, h3⟩ := zipD_get h'
    exact ⟨x', y', by simpa using h1, by simpa using h2, h3⟩
section
variable {W : Wc} {δ : List Sl}
theorem iv_zipM {tq : TA} {l m : List Dv} (h : Ea W tq δ [.lst l, .tup m]) (hl : l.length ≤ m.length) : Iv W (iZipM W.c.K tq) δ (zipD l m) := fun σ Hs H s R q => h.run s fun vs ds Hs1 H1 st1 s1 pa ra => by
  subst pa
  cases ra with
  | cons r1 r2 =>
    cases r2 with
    | cons r2 r3 =>
      cases r3
      cases r1 with
      | lst ha rr =>
        cases r2 with
        | tup hb rr2 =>
          rename_i ad xs bd ys
          have l1 := rr.length
          have l2 := rr2.length
          refine ⟨ad, bd, xs, ys, rfl, .inl (.inl (s1.sub _ _ ha)), ex_t s1.sub hb, q _ _ Hs1 H1 st1 rfl ⟨fun H => SqL W.c.K H ad xs ∧ SqT W.c.K H bd ys, _, (by rw [zipD_len _ _ hl, ← rr.length]; exact walk_zipM (by omega)), fun H' e => ⟨Or.inl (Or.inl (e _ _ ha)), ex_t e hb⟩, fun i Hs2 H2 x H3 d e1 e2 hd hy => ?_⟩⟩
          obtain ⟨T, x1, y1, rfl, hT, rfl, hx, hy⟩ := hy
          obtain ⟨d1, d2, hd1, hd2, rfl⟩ := zipD_get hd
          obtain ⟨v, hv, rv⟩ := rr.get hd1
          obtain ⟨v', hv', rv'⟩ := rr2.get hd2
          have hx' : xs[i]? = some x1 := hx
          have hy' : ys[i]? = some y1 := hy
          rw [hx'] at hv
          cases hv
          rw [hy'] at hv'
          cases hv'
          exact rp_pair (c := W.c) e2 hT (rv.ex e1) (rv'.ex e1)
end
/-! ### x in a tuple of tuples -/
section
variable {X : Cx}
def rInU (K : PySem.W.Frag) : R2 := fun x y H Q => ∃ d ds, Dp K H x d ∧ Dp K H y (.tuple ds) ∧ SeqAt.shaped d = true ∧ SeqAt.shaped (.tuple ds) = true ∧ Q (.bl (ds.any fun z => PyData.eqv z d)) H
theorem op_inU (hu : X.A.units + 65 < cLine) : OpR X (compareOp .In) (rInU X.K) := by
  intro pins s σ H x y v u Q I rx ry h
  obtain ⟨d, ds, hd, he, sd, se, q⟩ := h
  obtain ⟨as, r1⟩ := Dp.reads I d x v hd rx
  obtain ⟨bs, r2⟩ := Dp.reads I (.tuple ds) y u he ry
  exact SeqAt.in_tuple_reads r2 r1 (SeqAt.canLay_of_shaped se) (SeqAt.canLay_of_shaped sd) (room_in_shaped sd hu) ⟨.bl _, H, I, rfl, q⟩
end
section
variable {W : Wc}
theorem rv_inU {w : List Int} {l : List (List Int)} : Rv W (rInU W.c.K) (wd w) (.tup (l.map wd)) (.bl (l.contains w)) := fun Hs H v z ex r1 r2 Q q => by
  have pl : plain (.tup (l.map wd)) = true := by
    unfold plain
    exact plains_wds l
  have tp : toPy (.tup (l.map wd)) = .tuple (l.map fun w => PyData.tuple (w.map PyData.int)) := by
    unfold toPy
    rw [toPys_wds]
  have sh : SeqAt.shaped (.tuple (l.map fun w => PyData.tuple (w.map PyData.int))) = true := by
    show (PyData.canLay0 (.tuple _) && decide (PyData.depth (.tuple _) ≤ 64)) = true
    rw [Bool.and_eq_true]
    refine ⟨?_, decide_eq_true ?_⟩
    · simp only [PyData.canLay0]
      exact lay_wds l
    · simp only [PyData.depth]
      have := depth_wds l
      omega
  refine ⟨toPy (wd w), l.map fun w => PyData.tuple (w.map PyData.int), (r1.ex ex).dp (plain_wd w), ?_, shaped_wd w, sh, ?_⟩
  · have := (r2.ex ex).dp pl
    rw [tp] at this
    exact this
  · rw [any_wds]
    exact q _ _ Hs H (Stp.refl ex) rfl (.bl _)
end
end KD
set_option Elab.async false
set_option linter.all false
set_option maxRecDepth 100000
set_option maxHeartbeats 4000000
/-! rules of our own: the dice, a list of three ints that stays tracked whatever they are -/
namespace KD
open PySem PySem.Spec PyProof.Rows L2
open Evl (Ex Ex.refl Ex.trans Ex.new Ex.mut ex_l ex_t fresh_back)
section
variable {X : Cx}
theorem dice_at {P : Program} {w : World} {H : Hp} {h : Heap} {p : Addr} (x : HOk P w H h) (e : H p = some (diceO p)) : ∃ (i j k : Int) (t u v : Tok) (n : Nat), h.get? p = some { cls := .type "list", data := .seq #[.int i t, .int j u, .int k v] n } := (x p _ e).1
theorem dice_ok {P : Program} {w : World} {H : Hp} {h : Heap} {p : Addr} {i j k : Int} {t u v : Tok} {n : Nat} (e : h.get? p = some { cls := .type "list", data := .seq #[.int i t, .int j u, .int k v] n }) : ObjOk P w H h p (diceO p) :=
  ⟨⟨i, j, k, t, u, v, n, e⟩, ⟨_, e⟩, fun h1 h2 ⟨i, j, k, t, u, v, n, e⟩ st => ⟨i, j, k, t, u, v, n, st _ e⟩⟩
def rIxDice : R2 := fun x y H Q => ∃ p i, x = .ref p ∧ H p = some (diceO p) ∧ y = .int i ∧ 0 ≤ i ∧ i < 3 ∧ ∀ n : Int, Q (.int n) H
theorem ix_dice : IxR X rIxDice := by
  intro value slice pins s σ H x y v u Q I rx ry h hs
  obtain ⟨p, i, rfl, hp, rfl, h0, h3, q⟩ := h
  cases rx
  obtain ⟨t, rfl⟩ := ry
  obtain ⟨a, b, c, ta, tb, tc, n, e⟩ := dice_at I.hok hp
  have hl : s.heap.IsList p #[.int a ta, .int b tb, .int c tc] := ⟨_, e, rfl, n, rfl⟩
  have hx : ∃ z tz, (#[Value.int a ta, .int b tb, .int c tc])[i.toNat]? = some (.int z tz) := by
    have : i.toNat = 0 ∨ i.toNat = 1 ∨ i.toNat = 2 := by omega
    rcases this with e | e | e
    · exact ⟨a, ta, by rw [e]; rfl⟩
    · exact ⟨b, tb, by rw [e]; rfl⟩
    · exact ⟨c, tc, by rw [e]; rfl⟩
  obtain ⟨z, tz, hz⟩ := hx
  exact item_listR hl h0 (by omega) hz ⟨.int z, H, I, ⟨_, rfl⟩, q z⟩ hs
def rSetDice : V → V → V → Hp → (Hp → Prop) → Prop := fun o i v H Q => ∃ p k n, o = .ref p ∧ i = .int k ∧ v = .int n ∧ H p = some (diceO p) ∧ 0 ≤ k ∧ k < 3 ∧ Q H
theorem upd_self {H : Hp} {p : Addr} {o : HO} (e : H p = some o) : upd H p o = H := by
  funext b
  by_cases h : b = p
  · subst h
    rw [upd_same, e]
  · rw [upd_ne h]
theorem set_dice : PSet X rSetDice := by
  intro pins s σ H o i v ov iv u Q I ro ri rv h
  obtain ⟨p, k, n, rfl, rfl, rfl, hp, h0, h3, q⟩ := h
  cases ro
  obtain ⟨t, rfl⟩ := ri
  obtain ⟨tn, rfl⟩ := rv
  obtain ⟨a, b, c, ta, tb, tc, m, e⟩ := dice_at I.hok hp
  refine PySem.W.ki_setAt e h0 (by omega) (by simpa using h3) ?_
  have hk : k.toNat = 0 ∨ k.toNat = 1 ∨ k.toNat = 2 := by omega
  have new : ∃ (i j k' : Int) (t u v : Tok) (n' : Nat), (s.heap.update p (Obj.mapSeq (·.setIfInBounds k.toNat (.int n tn)))).get? p = some { cls := .type "list", data := .seq #[.int i t, .int j u, .int k' v] n' } := by
    rcases hk with z | z | z
    · refine ⟨n, b, c, tn, tb, tc, m, ?_⟩
      rw [Heap.get?_update_self _ e (by rw [z]; rfl), z]
      rfl
    · refine ⟨a, n, c, ta, tn, tc, m, ?_⟩
      rw [Heap.get?_update_self _ e (by rw [z]; rfl), z]
      rfl
    · refine ⟨a, b, n, ta, tb, tn, m, ?_⟩
      rw [Heap.get?_update_self _ e (by rw [z]; rfl), z]
      rfl
  obtain ⟨i', j', k', t1, t2, t3, n', en⟩ := new
  have I' : Inv X pins σ (upd H p (diceO p)) { s with heap := s.heap.update p (Obj.mapSeq (·.setIfInBounds k.toNat (.int n tn))), toks := s.toks } := by
    refine I.write (x := p) (e := p) (by rw [hp]; trivial) (.inl rfl) (fun b u hb q => (Heap.get?_update_other _ _ (Ne.symm hb)).trans q) ⟨_, en⟩ (dice_ok en)
  rw [upd_self hp] at I'
  exact ⟨_, I', q⟩
/-- a list of three ints, kept as dice -/
def tDice (te : TE) : TE := fun σ H Q => te σ H fun x H1 => ∃ p i j k, x = .ref p ∧ H1 p = some (.lst [.int i, .int j, .int k]) ∧ Q (.ref p) (upd H1 p (diceO p))
theorem pe_dice {e : Expr} {te : TE} (he : PE X e te) : PE X e (tDice te) := by
  refine ⟨fun pins s σ H Q I h => ?_⟩
  refine thn (he.run pins s σ H _ I h) fun u s1 ⟨x, H1, I1, r1, p, i, j, k, ex, hp, q⟩ => ?_
  subst ex
  obtain ⟨its, n, r, e, hz⟩ := I1.lst hp
  cases r with
  | cons ra r => cases r with
    | cons rb r => cases r with
      | cons rc r =>
        cases r
        obtain ⟨ta, rfl⟩ := ra
        obtain ⟨tb, rfl⟩ := rb
        obtain ⟨tc, rfl⟩ := rc
        refine ⟨.ref p, _, I1.write (t' := s1.toks) (h' := s1.heap) (x := p) (e := p) (o := diceO p) (by rw [hp]; trivial) (.inl rfl) (fun b u _ q => q) ⟨_, e⟩ (dice_ok e), r1, q⟩
end
section
variable {W : Wc} {δ : List Sl} {te tb : TE} {N : List Sl → Prop} {R : Dv → Prop} {tz : TS}
theorem ep_ixDice {i : Int} {P : Dv → Prop} (ha : Ev W te δ .dice) (hb : Ev W tb δ (.int i)) (h0 : 0 ≤ i) (h3 : i < 3) (hP : ∀ n : Int, P (.int n)) : EP W (tOp rIxDice te tb) δ P := fun σ Hs H s Q q =>
  ha.run s fun v d Hs1 H1 st1 s1 pa ra => hb.run s1 fun u e Hs2 H2 st2 s2 pb rb => by
    subst pa
    subst pb
    cases rb
    cases ra with
    | dice h => exact ⟨_, i, rfl, (st2.ex1.trans s2.sub) _ _ h, rfl, h0, h3, fun n => q _ _ Hs2 H2 (st1.trans st2) (hP n) (.int n)⟩
theorem sq_setDice {to ti : TE} {i : Int} (he : EP W te δ fun d => ∃ n, d = .int n) (ho : Ev W to δ .dice) (hi : Ev W ti δ (.int i)) (h0 : 0 ≤ i) (h3 : i < 3) (k : Sx W tz δ N R) : Sx W (tSeq (tAsg te (gSub to ti rSetDice)) tz) δ N R := fun σ Hs H s D hn hr =>
  he.run s fun v d Hs1 H1 st1 s1 pa ra => ho.run s1 fun u e Hs2 H2 st2 s2 pb rb => hi.run s2 fun y e Hs3 H3 st3 s3 pc rc => by
    obtain ⟨n, rfl⟩ := pa
    subst pb
    subst pc
    cases rc
    cases ra
    cases rb with
    | dice h => exact ⟨_, i, n, rfl, rfl, rfl, (st3.ex1.trans s3.sub) _ _ h, h0, h3, k σ Hs3 H3 s3 D (fun a b c d x y z => hn a b c d x (((st1.trans st2).trans st3).ex1.trans y) z) hr⟩
theorem ev_dice {tq : TA} {a b c : Int} (h : Ea W tq δ [.int a, .int b, .int c]) : Ev W (tDice (tLst tq)) δ .dice := fun σ Hs H s Q q =>
  h.run s fun vs ds Hs1 H1 st1 s1 pa ra => by
    subst pa
    cases ra with
    | cons ra r => cases r with
      | cons rb r => cases r with
        | cons rc r =>
          cases r
          cases ra
          cases rb
          cases rc
          refine ⟨by show 3 ≤ sizeLine; decide, fun p hp => ⟨p, a, b, c, rfl, upd_same, ?_⟩⟩
          rw [upd_upd]
          exact q _ _ _ _ (st1.trans (Stp.new s1.sub hp)) rfl (.dice upd_same)
end
end KD
set_option Elab.async false
set_option linter.all false
set_option maxRecDepth 100000
set_option maxHeartbeats 4000000
/-! rules of our own: sorted, min of a list of tuples of ints -/
namespace KD
open PySem PySem.Spec PyProof.Rows L2
open Evl (Ex Ex.refl Ex.trans Ex.new Ex.mut ex_l ex_t fresh_back)
section
variable {prog : Program} {w : World} {A : Around} {s : Shared}
theorem lex_tot (c fin : Bool) : ∀ {xs ys : List Value} {ns ms : List Int} (i : Nat), IntsAre xs ns → IntsAre ys ms → ∃ b : Bool, ∀ Q : Bool → Shared → Prop, Q b s → PySem.W.KatLex prog w A c fin Q (xs.zip ys) i s := by
  intro xs ys ns ms i hx
  induction hx generalizing ys ms i with
  | nil => exact fun _ => ⟨fin, fun Q q => PySem.W.kat_nil q⟩
  | @cons p t xs ns hx ih =>
    intro hy
    cases hy with
    | nil => exact ⟨fin, fun Q q => PySem.W.kat_nil q⟩
    | @cons q u ys ms hy =>
      by_cases e : p = q
      · subst e
        obtain ⟨b, hb⟩ := ih (i + 1) hy
        refine ⟨b, fun Q hq => ?_⟩
        show PySem.W.KatLex prog w A c fin Q ((Value.int p t, Value.int p u) :: xs.zip ys) i s
        refine PySem.W.kat_cons (wpAny_eqBool_int ?_)
        rw [beq_self_eq_true]
        exact PySem.W.kat_yes (hb Q hq)
      · refine ⟨decide (p < q), fun Q hq => ?_⟩
        show PySem.W.KatLex prog w A c fin Q ((Value.int p t, Value.int q u) :: xs.zip ys) i s
        refine PySem.W.kat_cons (wpAny_eqBool_int ?_)
        rw [show (p == q) = false from beq_eq_false_iff_ne.mpr e]
        exact PySem.W.kat_no (TS.oneLt_ints _ hq)
theorem tups_firsts {h : Heap} : ∀ {vs : List Value}, (∀ v ∈ vs, ∃ n ns, TS.TupInts h v (n :: ns)) → ∃ fs : List Value, PySem.W.KatTups h vs fs ∧ fs.length = vs.length ∧ ∀ f ∈ fs, ∃ x t, f = Value.int x t
  | [], _ => ⟨[], PySem.W.KatTups.nil, rfl, fun _ hm => by simp at hm⟩
  | v :: vs, hp => by
    obtain ⟨fs, h1, h2, h3⟩ := tups_firsts (vs := vs) fun v' hm => hp v' (List.mem_cons_of_mem _ hm)
    obtain ⟨m, ns, a, xs, rfl, ⟨o, ho, hc, n, hd⟩, hi⟩ := hp v (List.mem_cons_self ..)
    obtain ⟨y, ys, e, t, hy⟩ : ∃ y ys, xs.toList = y :: ys ∧ ∃ t, y = Value.int m t := by
      cases q : xs.toList with
      | nil => rw [q] at hi; cases hi
      | cons y ys =>
        rw [q] at hi
        cases hi
        exact ⟨_, _, rfl, _, rfl⟩
    subst hy
    refine ⟨.int m t :: fs, PySem.W.KatTups.cons ho hc hd ?_ h1, by rw [List.length_cons, List.length_cons, h2], fun f hm => ?_⟩
    · have z := congrArg (fun l : List Value => l[0]?) e
      simpa using z
    · rcases List.mem_cons.mp hm with rfl | hm
      · exact ⟨m, t, rfl⟩
      · exact h3 f hm
theorem tups_tot {vs : List Value} (hp : ∀ v ∈ vs, ∃ n ns, TS.TupInts s.heap v (n :: ns)) : Srt.Tot prog w A s (tuples' true) (fun p => p.1 ∈ vs) := by
  intro p q hm hm'
  obtain ⟨m, ns, a, xs, e, ⟨o, ho, hc, n, hd⟩, hi⟩ := hp _ hm
  obtain ⟨m', ns', a', xs', e', ⟨o', ho', hc', n', hd'⟩, hi'⟩ := hp _ hm'
  obtain ⟨b, hb⟩ := lex_tot (prog := prog) (w := w) (A := A) (s := s) true (decide (xs.size < xs'.size)) 0 hi hi'
  refine ⟨b, ?_⟩
  rw [e, e']
  exact PySem.W.kat_lt ho hd ho' hd' (hb _ ⟨rfl, rfl⟩)
theorem tups_sortable {a : Addr} {vs : List Value} (h0 : 0 < vs.length) (hp : ∀ v ∈ vs, ∃ n ns, TS.TupInts s.heap v (n :: ns)) (ha : ∀ o, s.heap.get? a = some o → o.cls ≠ .type "tuple") : Srt.Sortable prog w A s a vs := by
  intro h' keep
  have hp' : ∀ v ∈ vs, ∃ n ns, TS.TupInts h' v (n :: ns) := fun v hm => by
    obtain ⟨x, y, p⟩ := hp v hm
    exact ⟨x, y, p.keeps fun b o e c => keep b o (fun z => by subst z; exact ha o e c) e⟩
  obtain ⟨fs, h1, h2, h3⟩ := tups_firsts hp'
  refine ⟨tuples' true, fun Q E hq => ?_, tups_tot hp'⟩
  refine PySem.W.kat_kind (T := .type "int") h1 (by omega) (fun f hm => ?_) (by rfl) ?_
  · obtain ⟨x, t, rfl⟩ := h3 f hm
    exact PySem.W.Looks.now
  · have e : (Value.type "int" != Value.type "tuple") = true := by first | decide +kernel | rfl | decide
    rw [e]
    exact hq
theorem sorted_tupsP {E : Value → Shared → Prop} {l : Addr} {vs : List Value} {Q : Value → Shared → Prop} (hl : s.heap.IsList l vs.toArray) (hz : vs.length ≤ sizeLine) (hp : ∀ v ∈ vs, ∃ n ns, TS.TupInts s.heap v (n :: ns))
    (h : ∀ (h' : Heap) (d : Addr) (out : List Value), out.Perm vs → (∀ b o, s.heap.get? b = some o → h'.get? b = some o) → s.heap.objs.size ≤ d → (∃ n, h'.get? d = some (seqObj "list" out.toArray n)) → Q (.ref d) { s with heap := h' }) :
    wpAny (model prog w) A (call (.builtin "sorted") [.ref l]) Q E s := by
  refine Srt.sorted_any hl hz (fun h2 h₁ a ha k => ?_) fun out ho => ?_
  · refine tups_sortable (s := { s with heap := h₁ }) (by omega) (fun v hm => ?_) fun o e => ?_
    · obtain ⟨x, y, p⟩ := hp v hm
      exact ⟨x, y, p.keeps fun b o e _ => (k b o e).2⟩
    · have e' : some o = some (seqObj "list" vs.toArray 0) := e.symm.trans ha
      cases e'
      intro c
      exact absurd (Value.type.inj c) (by decide)
  · exact h _ _ out ho (fun b o e => sortedAll_old e) (Nat.le_succ _) (sortedAll_at s.heap vs out.toArray)
end
section
variable {X : Cx}
def rSortedW (K : PySem.W.Frag) : List V → Hp → VK → Prop := fun vs H Q => ∃ a xs, vs = [V.ref a] ∧ SqL K H a xs ∧ (∀ x ∈ xs, ∃ t n ns, x = V.ref t ∧ SqT K H t ((n :: ns).map V.int)) ∧
  ∀ ys p, ys.Perm xs → H p = none → Q (.ref p) (upd H p (.lst ys))
theorem cr_sortedW : CallR X (.builtin "sorted") (rSortedW X.K) := by
  intro pins s σ H vs us Q I r h
  obtain ⟨a, xs, rfl, hs, hx, q⟩ := h
  obtain ⟨its, rv, hl, hz⟩ := I.list hs
  obtain ⟨u, rfl, ru⟩ := vals1 r
  obtain rfl : u = Value.ref a := ru
  obtain ⟨e1, e2⟩ := refs_back rv fun x m => by
    obtain ⟨t, _, _, e, _⟩ := hx x m
    exact ⟨t, e⟩
  refine sorted_tupsP hl.isList (by rw [← rv.length]; exact hz) (fun v hv => ?_) fun h' d out hp k hd hn => ?_
  · obtain ⟨t, rfl⟩ := e2 v hv
    have hm : V.ref t ∈ xs := by rw [e1]; exact List.mem_map.mpr ⟨_, hv, rfl⟩
    obtain ⟨t', n, ns, e, ht⟩ := hx _ hm
    cases e
    obtain ⟨its2, r2, p2, _⟩ := I.tuple ht
    exact ⟨n, ns, t, its2.toArray, rfl, p2, by simpa using r2.ints⟩
  · have h3 : ∀ u ∈ out, ∃ a, u = Value.ref a := fun u hu => e2 u (hp.mem_iff.mp hu)
    obtain ⟨n, hn⟩ := hn
    refine ⟨.ref d, upd H d (.lst (out.map backV)), I.laid (t' := s.toks) k hd ⟨?_, out, n, vals_back h3, hn⟩, rfl, q _ d ?_ (I.hok.fresh hd)⟩
    · rw [List.length_map, hp.length_eq, ← rv.length]; exact hz
    · rw [e1]; exact hp.map backV
end
/-! ### min -/
section
variable {prog : Program} {w : World} {A : Around} {E : Value → Shared → Prop} {s : Shared}
open PySem.W in
theorem min_list_ix {l : Addr} {vs : Array Value} {x : PyData} {xs : List PyData} {as : List Addr} {Q : Value → Shared → Prop} (hh : A.handled = none) (hl : s.heap.IsList l vs) (hr : ReadsAll s.heap vs.toList (x :: xs) as) (ha : AlikeAll (x :: xs)) (hu : A.units + 1 + PyData.depthAll (x :: xs) < cLine)
    (h : ∀ (i : Nat) v h' tk, vs[i]? = some v → (x :: xs).getD i .none = minD x xs → (∀ b o, s.heap.get? b = some o → h'.get? b = some o) → Q v { s with heap := h', toks := tk }) :
    wpAny (model prog w) A (call (.builtin "min") [.ref l]) Q E s := by
  have hn : vs.size = xs.length + 1 := readsAll_len hr
  refine call_min_walkH (iter_listW (A := A.in1) hh hl fun s₂ e W st hfp hw hk => ?_)
  refine ⟨_, _, _, _, _, _, _, s.heap, _, rfl, W, st, hfp, by omega, hw, hk, cmpIn_lt (A := A.in1) hr ha (by show A.units + 1 + _ < _; exact hu), fun v s' hP m => ?_⟩
  obtain ⟨h', tk, rfl, hk'⟩ := moved_old e rfl m
  have e1 : vs.size - 1 = xs.length := by omega
  have e2 := (argBest_fold dataLt PyData.none x xs xs.length (Nat.le_refl _)).2
  rw [List.take_length] at e2
  refine h _ v h' tk hP ?_ hk'
  rw [e1]
  unfold minD
  exact e2
end

/-! ### the order of words -/
theorem lexLt_iff : ∀ w u : List Int, HT.lexLt w u = decide (w < u)
  | [], [] => by simp [HT.lexLt]
  | [], _ :: _ => by simp [HT.lexLt]
  | _ :: _, [] => by simp [HT.lexLt]
  | i :: w, j :: u => by
    have ih := lexLt_iff w u
    rw [HT.lexLt_cons, ih]
    by_cases h : i = j
    · subst h
      simp [List.cons_lt_cons_iff]
    · simp [List.cons_lt_cons_iff, h]
theorem dataLt_wd (w u : List Int) : PySem.W.dataLt (.tuple (w.map PyData.int)) (.tuple (u.map PyData.int)) = HT.lexLt w u := by
  rw [PySem.W.dataLt_tuple, lexLt_iff, ← PySem.W.dataLt_ints]
  rfl
theorem lex_irr : ∀ w : List Int, HT.lexLt w w = false
  | [] => rfl
  | i :: w => by
    rw [HT.lexLt_cons, if_pos rfl]
    exact lex_irr w
theorem lex_tr : ∀ {a b c : List Int}, HT.lexLt a b = true → HT.lexLt b c = true → HT.lexLt a c = true
  | [], [], _, h, _ => by cases h
  | [], _ :: _, [], _, h => by cases h
  | [], _ :: _, _ :: _, _, _ => rfl
  | _ :: _, [], _, h, _ => by cases h
  | _ :: _, _ :: _, [], _, h => by cases h
  | x :: a, y :: b, z :: c, h1, h2 => by
    rw [HT.lexLt_cons] at h1 h2 ⊢
    by_cases e1 : x = y
    · subst e1
      rw [if_pos rfl] at h1
      by_cases e2 : x = z
      · subst e2
        rw [if_pos rfl] at h2 ⊢
        exact lex_tr h1 h2
      · rw [if_neg e2] at h2 ⊢
        exact h2
    · rw [if_neg e1] at h1
      have l1 : x < y := of_decide_eq_true h1
      by_cases e2 : y = z
      · subst e2
        rw [if_neg e1]
        exact h1
      · rw [if_neg e2] at h2
        have l2 : y < z := of_decide_eq_true h2
        have l3 : x < z := by omega
        rw [if_neg (by omega)]
        exact decide_eq_true l3
theorem lex_tri : ∀ a b : List Int, HT.lexLt a b = true ∨ a = b ∨ HT.lexLt b a = true
  | [], [] => .inr (.inl rfl)
  | [], _ :: _ => .inl rfl
  | _ :: _, [] => .inr (.inr rfl)
  | x :: a, y :: b => by
    rw [HT.lexLt_cons, HT.lexLt_cons]
    by_cases e : x = y
    · subst e
      rw [if_pos rfl, if_pos rfl]
      rcases lex_tri a b with h | h | h
      · exact .inl h
      · exact .inr (.inl (by rw [h]))
      · exact .inr (.inr h)
    · have e' : ¬ y = x := fun z => e z.symm
      rw [if_neg e, if_neg e']
      rcases Int.lt_or_gt_of_ne e with h | h
      · exact .inl (decide_eq_true h)
      · exact .inr (.inr (decide_eq_true h))
/-- nothing is less than the least -/
def LeastIn (m : List Int) (l : List (List Int)) : Prop := m ∈ l ∧ ∀ u ∈ l, HT.lexLt u m = false
theorem least_foldl : ∀ (l : List (List Int)) (x : List Int), LeastIn (l.foldl (fun a y => if HT.lexLt y a then y else a) x) (x :: l)
  | [], x => ⟨List.mem_cons_self, fun u hu => by
    rw [List.mem_singleton.mp hu]
    exact lex_irr x⟩
  | y :: l, x => by
    rw [List.foldl_cons]
    by_cases h : HT.lexLt y x = true
    · rw [if_pos h]
      obtain ⟨h1, h2⟩ := least_foldl l y
      refine ⟨List.mem_cons_of_mem _ h1, fun u hu => ?_⟩
      rcases List.mem_cons.mp hu with rfl | hu
      · cases q : HT.lexLt u (l.foldl (fun a y => if HT.lexLt y a then y else a) y) with
        | false => rfl
        | true =>
          have := lex_tr h q
          rw [h2 y List.mem_cons_self] at this
          cases this
      · exact h2 u hu
    · have h' : HT.lexLt y x = false := by simpa using h
      rw [if_neg h]
      obtain ⟨h1, h2⟩ := least_foldl l x
      refine ⟨?_, fun u hu => ?_⟩
      · rcases List.mem_cons.mp h1 with e | h1
        · rw [e]
          exact List.mem_cons_self
        · exact List.mem_cons_of_mem _ (List.mem_cons_of_mem _ h1)
      · rcases List.mem_cons.mp hu with rfl | hu
        · exact h2 u List.mem_cons_self
        · rcases List.mem_cons.mp hu with rfl | hu
          · cases q : HT.lexLt u (l.foldl (fun a y => if HT.lexLt y a then y else a) x) with
            | false => rfl
            | true =>
              rcases lex_tri x u with e | e | e
              · have := lex_tr e q
                rw [h2 x List.mem_cons_self] at this
                cases this
              · subst e
                rw [h2 x List.mem_cons_self] at q
                cases q
              · rw [h'] at e
                cases e
          · exact h2 u (List.mem_cons_of_mem _ hu)
theorem minD_wds (x : List Int) : ∀ l : List (List Int), PySem.W.minD (.tuple (x.map PyData.int)) (l.map fun w => PyData.tuple (w.map PyData.int)) = .tuple ((l.foldl (fun a y => if HT.lexLt y a then y else a) x).map PyData.int) := by
  intro l
  unfold PySem.W.minD
  induction l generalizing x with
  | nil => rfl
  | cons y l ih =>
    rw [List.map_cons, List.foldl_cons, List.foldl_cons]
    have e : (if PySem.W.dataLt (PyData.tuple (y.map PyData.int)) (PyData.tuple (x.map PyData.int)) = true then PyData.tuple (y.map PyData.int) else PyData.tuple (x.map PyData.int)) = PyData.tuple ((if HT.lexLt y x = true then y else x).map PyData.int) := by
      rw [dataLt_wd]
      split <;> rfl
    rw [e, ih]
theorem tup_inj : ∀ {w u : List Int}, PyData.tuple (w.map PyData.int) = PyData.tuple (u.map PyData.int) → w = u := by
  intro w u h
  have h' := PyData.tuple.inj h
  revert u
  induction w with
  | nil =>
    intro u _ h'
    cases u with
    | nil => rfl
    | cons j u => cases h'
  | cons i w ih =>
    intro u _ h'
    cases u with
    | nil => cases h'
    | cons j u =>
      rw [List.map_cons, List.map_cons] at h'
      injection h' with h1 h2
      injection h1 with h1
      rw [h1, ih (by rw [h2]) h2]
section
variable {X : Cx}
def rMinW (K : PySem.W.Frag) : List V → Hp → VK → Prop := fun vs H Q => ∃ (a : Addr) (xs : List V) (w : List Int) (l : List (List Int)), vs = [V.ref a] ∧ SqL K H a xs ∧ Dp K H (.ref a) (.list ((w :: l).map fun w => PyData.tuple (w.map PyData.int))) ∧
  ∀ (i : Nat) (x : V) (m : List Int), xs[i]? = some x → (w :: l)[i]? = some m → LeastIn m (w :: l) → Q x H
theorem cr_minW (hc : X.calm = true) (hu : X.A.units + 64 < cLine) : CallR X (.builtin "min") (rMinW X.K) := by
  intro pins s σ H vs us Q I r h
  obtain ⟨a, xs, w, l, rfl, hs, hd, q⟩ := h
  obtain ⟨its, rv, hl, hz⟩ := I.list hs
  rw [Vals.ref1 r]
  have hr : ∃ as, ReadsAll s.heap its ((w :: l).map fun w => PyData.tuple (w.map PyData.int)) as := by
    cases hd with
    | lst h1 h2 =>
      rename_i xs'
      have e : xs' = xs := I.list_inj h1 hs
      subst e
      exact Dp.readsAll I _ _ _ h2 rv
  obtain ⟨as, hr⟩ := hr
  refine min_list_ix (vs := its.toArray) (x := .tuple (w.map PyData.int)) (xs := l.map fun w => PyData.tuple (w.map PyData.int)) (I.ok.hd hc) hl.isList (by simpa using hr) ⟨fun x hx y hy => ?_, fun x hx => ?_⟩ ?_ fun i v h' tk hv he hk => ?_
  · have hx' : x ∈ (w :: l).map fun w => PyData.tuple (w.map PyData.int) := hx
    have hy' : y ∈ (w :: l).map fun w => PyData.tuple (w.map PyData.int) := hy
    obtain ⟨u, _, rfl⟩ := List.mem_map.mp hx'
    obtain ⟨z, _, rfl⟩ := List.mem_map.mp hy'
    simp only [PySem.W.alike]
    exact PySem.W.alike_ints u z
  · have hx' : x ∈ (w :: l).map fun w => PyData.tuple (w.map PyData.int) := hx
    obtain ⟨u, _, rfl⟩ := List.mem_map.mp hx'
    exact fun z => nomatch z
  · have := depth_wds (w :: l)
    have e : PyData.depthAll (PyData.tuple (w.map PyData.int) :: l.map fun w => PyData.tuple (w.map PyData.int)) = PyData.depthAll ((w :: l).map fun w => PyData.tuple (w.map PyData.int)) := rfl
    omega
  · have hv' : its[i]? = some v := by simpa using hv
    obtain ⟨hi, _⟩ := List.getElem?_eq_some_iff.mp hv'
    have lx := rv.length
    have lr : its.length = (w :: l).length := by
      have := PySem.W.readsAll_len (vs := its.toArray) (by simpa using hr)
      simpa using this
    have hxi : xs[i]? = some xs[i] := List.getElem?_eq_getElem (by omega)
    obtain ⟨u, hu', ru⟩ := rv.get hxi
    rw [hv'] at hu'
    cases hu'
    have hm : (w :: l)[i]? = some (w :: l)[i] := List.getElem?_eq_getElem (by omega)
    have em : (w :: l)[i] = l.foldl (fun a y => if HT.lexLt y a then y else a) w := by
      apply tup_inj
      rw [← minD_wds, ← he]
      have e2 : ((PyData.tuple (w.map PyData.int)) :: l.map fun w => PyData.tuple (w.map PyData.int)) = (w :: l).map fun w => PyData.tuple (w.map PyData.int) := rfl
      rw [e2, List.getD_eq_getElem?_getD, List.getElem?_map, hm]
      rfl
    refine ⟨xs[i], H, I.kept hk, ru, q i xs[i] (w :: l)[i] hxi hm ?_⟩
    rw [em]
    exact least_foldl l w
end
section
variable {W : Wc}
theorem rp_wds {c : Kc} {H : Hp} : ∀ {l : List (List Int)} {vs : List V}, RpAll c H vs (l.map wd) → ∀ x ∈ vs, ∃ w ∈ l, Rp c H x (wd w)
  | [], _, .nil, x, hx => by simp at hx
  | w :: l, _, .cons h r, x, hx => by
    rcases List.mem_cons.mp hx with rfl | hx
    · exact ⟨w, List.mem_cons_self, h⟩
    · obtain ⟨u, hu, hr⟩ := rp_wds (l := l) r x hx
      exact ⟨u, List.mem_cons_of_mem _ hu, hr⟩
theorem rp_perm {c : Kc} {H : Hp} {xs ys : List V} (p : ys.Perm xs) : ∀ {ds : List Dv}, RpAll c H xs ds → ∃ es, es.Perm ds ∧ RpAll c H ys es := by
  induction p with
  | nil => intro ds r; exact ⟨ds, .refl _, r⟩
  | cons x p ih =>
    intro ds r
    cases r with
    | cons h r =>
      obtain ⟨es, pe, re⟩ := ih r
      exact ⟨_ :: es, pe.cons _, .cons h re⟩
  | swap x y l =>
    intro ds r
    cases r with
    | cons h1 r =>
      cases r with
      | cons h2 r => exact ⟨_ :: _ :: _, .swap _ _ _, .cons h2 (.cons h1 r)⟩
  | trans p1 p2 ih1 ih2 =>
    intro ds r
    obtain ⟨es, pe, re⟩ := ih2 r
    obtain ⟨fs, pf, rf⟩ := ih1 re
    exact ⟨fs, pf.trans pe, rf⟩
theorem perm_map_inv {α β : Type} (f : α → β) {es ds : List β} (p : es.Perm ds) : ∀ l : List α, ds = l.map f → ∃ m : List α, m.Perm l ∧ es = m.map f := by
  induction p with
  | nil =>
    intro l h
    cases l with
    | nil => exact ⟨[], .refl _, rfl⟩
    | cons a b => cases h
  | cons x p ih =>
    intro l h
    cases l with
    | nil => cases h
    | cons a b =>
      rw [List.map_cons] at h
      injection h with h1 h2
      obtain ⟨m, pm, em⟩ := ih b h2
      exact ⟨a :: m, pm.cons a, by rw [List.map_cons, h1, em]⟩
  | swap x y l0 =>
    intro l h
    cases l with
    | nil => cases h
    | cons a l =>
      cases l with
      | nil => cases h
      | cons b c =>
        rw [List.map_cons, List.map_cons] at h
        injection h with h1 h2
        injection h2 with h2 h3
        exact ⟨b :: a :: c, .swap _ _ _, by rw [List.map_cons, List.map_cons, h1, h2, h3]⟩
  | trans p1 p2 ih1 ih2 =>
    intro l h
    obtain ⟨m, pm, em⟩ := ih2 l h
    obtain ⟨m', pm', em'⟩ := ih1 m em
    exact ⟨m', pm'.trans pm, em'⟩
theorem cp_sortedW {l : List (List Int)} (hn : ∀ w ∈ l, w ≠ []) : CP W (rSortedW W.c.K) [wds l] fun d => ∃ m : List (List Int), m.Perm l ∧ d = wds m := fun Hs H vs ex r Q q => by
  cases r with
  | cons r1 r2 =>
    cases r2
    cases r1 with
    | lst h rr =>
      rename_i a xs
      refine ⟨a, xs, rfl, .inl (.inl (ex _ _ h)), fun x hx => ?_, fun ys p hp hpn => ?_⟩
      · obtain ⟨w, hw, hr⟩ := rp_wds rr x hx
        cases hr with
        | tup h1 h2 =>
          have e := rp_ints h2
          subst e
          cases w with
          | nil => exact absurd rfl (hn [] hw)
          | cons n ns => exact ⟨_, n, ns, rfl, ex_t ex h1⟩
      · obtain ⟨es, pe, re⟩ := rp_perm hp rr
        obtain ⟨m, pm, em⟩ : ∃ m : List (List Int), m.Perm l ∧ es = m.map wd := by
          exact perm_map_inv wd pe l rfl
        subst em
        exact q _ _ _ _ (Stp.new ex hpn) ⟨m, pm, rfl⟩ (.lst upd_same (re.ex (Ex.new (fresh_back ex hpn))))
theorem cp_minW {w : List Int} {l : List (List Int)} : CP W (rMinW W.c.K) [wds (w :: l)] fun d => ∃ m, d = wd m ∧ LeastIn m (w :: l) := fun Hs H vs ex r Q q => by
  cases r with
  | cons r1 r2 =>
    cases r2
    have hd := (r1.ex ex).dp (plain_wds (w :: l))
    rw [toPy_wds] at hd
    cases r1 with
    | lst h rr =>
      rename_i a xs
      refine ⟨a, xs, w, l, rfl, .inl (.inl (ex _ _ h)), hd, fun i x m hx hm hl => ?_⟩
      obtain ⟨d, hd', rd⟩ := rr.get' hx
      rw [List.getElem?_map, hm] at hd'
      cases hd'
      exact q _ _ Hs H (Stp.refl ex) ⟨m, rfl, hl⟩ rd
end
end KD
set_option Elab.async false
set_option linter.all false
set_option maxRecDepth 100000
set_option maxHeartbeats 4000000
namespace KD
open PySem PySem.Spec PyProof.Rows L2
open Evl (Ex Ex.refl Ex.trans Ex.new Ex.mut ex_l ex_t fresh_back)
/-! ### isinstance -/
def tyD : Dv → Option String
  | .non => some "NoneType" | .bl _ => some "bool" | .int _ => some "int" | .str _ => some "str" | .lst _ => some "list" | .tup _ => some "tuple" | .dct => some "dict" | _ => none
theorem tyX_of {c : Kc} {H : Hp} {v : V} {d : Dv} {t : String} (r : Rp c H v d) (e : tyD d = some t) : TyX c.K H v (.type t) := by
  cases r with
  | non => cases e; exact .base .non
  | bl b => cases e; exact .base (.bl b)
  | int i => cases e; exact .base (.int i)
  | str x => cases e; exact .base (.str x)
  | lst h _ => cases e; exact .base (.lst h)
  | tup h _ =>
    cases e
    rcases h with h | ⟨o, its, n, h1, h2, _⟩
    · rcases h with h | ⟨o, h⟩
      · exact .base (.tup h)
      · exact .fTuple h
    · exact .kTuple h1 h2
  | dice h => cases e
  | br _ _ _ _ _ => cases e
  | dct h => cases e; exact .base (.dK h)
  | scr h => cases e
section
variable {W : Wc} {δ : List Sl} {te : TE} {d : Dv}
theorem ev_isi {T t : String} {b : Bool} (h : Ev W te δ d) (hd : tyD d = some t) (hk : kitB t T = some b) : Ev W (tCB (rIsi W.c.K) (tCons te (tCons (tC (.ty T)) tNil))) δ (.bl b) := fun σ Hs H s Q q =>
  h.run s fun v d' Hs1 H1 st1 s1 pa ra => by
    subst pa
    exact ⟨v, .ty T, .type t, .type T, b, rfl, .ty T, tyX_of (ra.ex (st1.sub)) hd, kit_ty hk, q _ _ Hs1 H1 st1 rfl (.bl b)⟩
end
/-! ### the same rules at a named written part -/
theorem call_isiX {X : Cx} {K : PySem.W.Frag} (h : X.K = K) : CallR X (.builtin "isinstance") (rIsi K) := by
  subst h
  exact call_isi
theorem op_eqDX {X : Cx} {K : PySem.W.Frag} (h : X.K = K) (hu : X.A.units + 64 < cLine) : OpR X (compareOp .Eq) (rEqD K) := by
  subst h
  exact op_eqD hu
theorem op_catAX {X : Cx} {K : PySem.W.Frag} (h : X.K = K) : OpR X (binaryOp .Add) (rCatA K) := by
  subst h
  exact op_catA
end KD
set_option Elab.async false
set_option linter.all false
set_option maxRecDepth 100000
set_option maxHeartbeats 4000000
namespace KD
open PySem PySem.Spec PyProof.Rows L2
open Evl (Ex Ex.refl Ex.trans Ex.new Ex.mut ex_l ex_t fresh_back)
open SlX
/-! ### the constants of the text -/
def GlV (mg : Str → Option Value) (x : Str) (v : V) : Prop := ∃ u, mg x = some u ∧ RelV v u
theorem pe_globR {X : Cx} {x : Str} {v : V} {pos : Pos} (hg : Gl X x) (h : GlV X.mg x v) (hd : (x == ("__debug__" : Str)) = false := by decide) : PE X (.Name x pos) (tC v) := by
  obtain ⟨u, hm, r⟩ := h
  exact pe_glob hg hm r hd
def primes : List Int := [2, 3, 5, 7, 11, 13, 17, 19, 23, 29, 31]
structure Cs (K : PySem.W.Frag) (mg : Str → Option Value) (C : Addr) : Prop where
  c_GREAT : GlV mg "GREAT" (.int (10 ^ 60))
  c_TURN : GlV mg "TURN" (.int (-1))
  c_MAX_LETTERS : GlV mg "MAX_LETTERS" (.int 60)
  c_ORIGIN_TEXT : GlV mg "ORIGIN_TEXT" (.str ".")
  c_TURN_TEXT : GlV mg "TURN_TEXT" (.str "t")
  c_BLANK : GlV mg "BLANK" (.str " ")
  c_FIXED : GlV mg "FIXED" (.str "fixed")
  c_LIVE : GlV mg "LIVE" (.str "not zero")
  c_FREE : GlV mg "FREE" (.str "free")
  c_FIRST : GlV mg "FIRST" (.str "first")
  c_PRIMES : ∃ a, GlV mg "PRIMES" (.ref a) ∧ ∀ H, SqT K H a (primes.map V.int)
  c_Branch : mg "Branch" = some (.ref C)
section
variable {W : Wc} {δ : List Sl} {te ta tb : TE} {d : Dv}
theorem rp_intsOf {c : Kc} {H : Hp} : ∀ w : List Int, RpAll c H (w.map V.int) (w.map Dv.int)
  | [] => .nil
  | a :: w => .cons (.int a) (rp_intsOf w)
theorem ev_constT {a : Addr} {w : List Int} (h : ∀ H, SqT W.c.K H a (w.map V.int)) : Ev W (tC (.ref a)) δ (wd w) := fun σ Hs H s Q q =>
  q _ _ Hs H (Stp.refl s.sub) rfl (.tup (h Hs) (rp_intsOf w))
/-! ### the class Branch -/
structure Bc (K : PySem.W.Frag) (C : Addr) : Prop where
  cls : SCls K C
  isi : SIsi K C
  s0 : ∃ p, Slot1 K C "own_prime" p 0
  s1 : ∃ p, Slot1 K C "own_text" p 1
  s2 : ∃ p, Slot1 K C "own_word" p 2
theorem call_isiSlX {X : Cx} {K : PySem.W.Frag} (h : X.K = K) (u : Value) : CallR X (.builtin "isinstance") (rIsiSl K u) := by
  subst h
  exact call_isiSl u
theorem ev_isiBr {p : Int} {w : List Int} (b : Bc W.c.K W.c.C) (h : Ev W te δ (.br p w)) : Ev W (tCB (rIsiSl W.c.K (.ref W.c.C)) (tCons te (tCons (tC (.ref W.c.C)) tNil))) δ (.bl true) := fun σ Hs H s Q q =>
  h.run s fun v d' Hs1 H1 st1 s1 pa ra => by
    subst pa
    cases ra with
    | br h1 h2 h3 h4 h5 =>
      rename_i a dx b' vs
      refine ⟨a, W.c.C, dx, vs, .ref W.c.C, true, rfl, rfl, fun w r => r, .inr ⟨st1.sub _ _ h1, st1.sub _ _ h2⟩, b.cls, b.isi, ?_, q _ _ Hs1 H1 st1 rfl (.bl true)⟩
      unfold PySem.W.kitOne
      first | rfl | simp
theorem ev_slWord {p : Int} {w : List Int} (b : Bc W.c.K W.c.C) (h : Ev W te δ (.br p w)) : Ev W (tSl W.c.K te "own_word") δ (wd w) := fun σ Hs H s Q q =>
  h.run s fun v d' Hs1 H1 st1 s1 pa ra => by
    subst pa
    cases ra with
    | br h1 h2 h3 h4 h5 =>
      rename_i a dx b' vs
      obtain ⟨sp, sl⟩ := b.s2
      exact ⟨a, W.c.C, dx, sp, vs, 2, .ref b', rfl, .inr ⟨st1.sub _ _ h1, st1.sub _ _ h2⟩, b.cls, sl, h4, q _ _ Hs1 H1 st1 rfl (.tup h5 (rp_intsOf w))⟩
/-! ### texts -/
theorem str_app_len (a b : Str) : (a ++ b).length = a.length + b.length := by
  show (a.cps ++ b.cps).size = _
  rw [Array.size_append]
  rfl
theorem join_len (sep : Str) (n : Nat) (hs : sep.length ≤ n) : ∀ ys : List Str, (∀ y ∈ ys, y.length ≤ n) → (Str.join sep ys).length ≤ 2 * n * ys.length
  | [], _ => Nat.zero_le _
  | [x], h => by
    have := h x (List.mem_cons_self ..)
    show x.length ≤ 2 * n * 1
    omega
  | x :: y :: r, h => by
    have h1 := h x (List.mem_cons_self ..)
    have ih := join_len sep n hs (y :: r) fun z hz => h z (List.mem_cons_of_mem _ hz)
    show (x ++ sep ++ Str.join sep (y :: r)).length ≤ _
    rw [str_app_len, str_app_len, List.length_cons, Nat.mul_succ]
    omega
theorem digits_len : ∀ n : Fin 40, (Str.ofString (toString ((n : Nat) : Int))).length ≤ 10 := by decide +kernel
theorem digits_len' {i : Int} (h0 : 0 ≤ i) (h1 : i < 40) : (Str.ofString (toString i)).length ≤ 10 := by
  have := digits_len ⟨i.toNat, by omega⟩
  have e : ((i.toNat : Nat) : Int) = i := by omega
  rw [← e]
  exact this
/-- some short text -/
def ShortS (n : Nat) (d : Dv) : Prop := ∃ x : Str, d = .str x ∧ x.length ≤ n
theorem ep_strInt {i : Int} (h : Ev W te δ (.int i)) (h0 : 0 ≤ i) (h1 : i < 40) : EP W (tCB (fun xs H Q => ∃ i : Int, xs = [.int i] ∧ i.natAbs.log2 < 1920 ∧ Q (.str (toString i)) H) (tCons te tNil)) δ (ShortS 10) :=
  ep_cb (ea_cons h ea_nil) fun ds e => by
    subst e
    intro Hs H vs ex r Q q
    cases r with
    | cons r1 r2 =>
      cases r2
      cases r1
      refine ⟨i, rfl, ?_, q _ (.str (toString i)) Hs H (Stp.refl ex) ⟨_, rfl, digits_len' h0 h1⟩ (.str _)⟩
      have : i.natAbs < 2 ^ 6 := by omega
      exact Nat.lt_of_lt_of_le (PySem.Flt.log2_lt_of (by decide) this) (by decide)
theorem shorts_of {n : Nat} : ∀ {l : List Dv}, (∀ x ∈ l, ShortS n x) → ∃ ys : List Str, l = ys.map Dv.str ∧ ∀ y ∈ ys, y.length ≤ n
  | [], _ => ⟨[], rfl, fun a h => nomatch h⟩
  | x :: l, h => by
    obtain ⟨i, rfl, pi⟩ := h x (List.mem_cons_self ..)
    obtain ⟨w, rfl, pw⟩ := shorts_of fun y hy => h y (List.mem_cons_of_mem _ hy)
    refine ⟨i :: w, rfl, fun a ha => ?_⟩
    rcases List.mem_cons.mp ha with rfl | ha
    · exact pi
    · exact pw a ha
theorem sum_len (n : Nat) : ∀ ys : List Str, (∀ y ∈ ys, y.length ≤ n) → (ys.map (·.length)).sum ≤ n * ys.length
  | [], _ => Nat.zero_le _
  | y :: ys, h => by
    have := h y (List.mem_cons_self ..)
    have := sum_len n ys fun z hz => h z (List.mem_cons_of_mem _ hz)
    rw [List.map_cons, List.sum_cons, List.length_cons, Nat.mul_succ]
    omega
/-- sep.join(texts) -/
theorem ep_join {sep : Str} (hs : sep.length ≤ 10) (ho : Ev W ta δ (.str sep)) (he : EP W te δ fun d => ∃ l, d = .lst l ∧ l.length ≤ 100 ∧ ∀ x ∈ l, ShortS 10 x) :
    EP W (tM1 (fun x xs H Q => ∃ a p, ∃ ys : List Str, x = .str a ∧ xs = [.ref p] ∧ (SqL W.c.K H p (ys.map V.str) ∨ SqT W.c.K H p (ys.map V.str)) ∧
      (ys.map (·.length)).sum + ys.length * a.length ≤ 16777216 ∧ Q (.str (Txt.join a ys)) H) ta te) δ (ShortS 2000) := fun σ Hs H s Q q =>
  ho.run s fun v d Hs1 H1 st1 s1 pa ra => by
    subst pa
    cases ra
    refine ⟨⟨_, rfl⟩, he.run s1 fun u e Hs2 H2 st2 s2 pb rb => ?_⟩
    obtain ⟨l, rfl, hl, hx⟩ := pb
    obtain ⟨ys, rfl, hy⟩ := shorts_of hx
    rw [List.length_map] at hl
    cases rb with
    | lst h r =>
      have e := rp_strs r
      subst e
      have hsum := sum_len 10 ys hy
      have hm : ys.length * sep.length ≤ 100 * 10 := Nat.mul_le_mul hl hs
      refine ⟨sep, _, ys, rfl, rfl, .inl (.inl (.inl (s2.sub _ _ h))), by omega, q _ (.str (Txt.join sep ys)) Hs2 H2 (st1.trans st2) ⟨_, rfl, ?_⟩ (.str _)⟩
      rw [TL.join_eq]
      have := join_len sep 10 hs ys hy
      omega
/-- f'{text}{text}{int}' -/
theorem ep_fstr {sep : Str} {i : Int} (hs : sep.length ≤ 10) (ha : EP W ta δ (ShortS 2000)) (hb : Ev W tb δ (.int i)) (h0 : 0 ≤ i) (h1 : i < 40) :
    EP W (fun σ H Q => tJs [tFmt ta, tC (.str sep), tFmt tb] Str.empty σ H fun out H1 => Q (.str out) H1) δ (ShortS 3000) := fun σ Hs H s Q q =>
  ha.run s fun v d Hs1 H1 st1 s1 pa ra => by
    obtain ⟨x, rfl, hx⟩ := pa
    cases ra
    have e0 : Str.empty.length = 0 := rfl
    have hz : sizeLine = 16777216 := rfl
    refine .inl ⟨x, rfl, by omega, x, rfl, by rw [str_app_len]; omega, sep, rfl, by rw [str_app_len, str_app_len]; omega, hb.run s1 fun u e Hs2 H2 st2 s2 pb rb => ?_⟩
    subst pb
    cases rb
    have hd := digits_len' h0 h1
    have hlog : i.natAbs.log2 < 1920 := by
      have : i.natAbs < 2 ^ 6 := by omega
      exact Nat.lt_of_lt_of_le (PySem.Flt.log2_lt_of (by decide) this) (by decide)
    refine .inr ⟨i, rfl, hlog, Str.ofString (toString i), rfl, by rw [str_app_len, str_app_len, str_app_len]; omega, q _ (.str _) Hs2 H2 (st1.trans st2) ⟨_, rfl, ?_⟩ (.str _)⟩
    rw [str_app_len, str_app_len, str_app_len]
    omega
end
end KD
set_option Elab.async false
set_option linter.all false
set_option maxRecDepth 100000
set_option maxHeartbeats 4000000
namespace KD
open PySem PySem.Spec PyProof.Rows L2
open Evl (Ex Ex.refl Ex.trans Ex.new Ex.mut ex_l ex_t fresh_back)
open SlX
/-! ### Branch(p, w): made and filled -/
/-- the words that a Branch may hold -/
def OkW (p : Int) (u : List Int) : Prop := p ∈ primes ∧ KM.wdWord p u = true ∧ u.length ≤ 60
def spInit (K : PySem.W.Frag) (C : Addr) : Sp := fun vs H Q E => ∃ (x dx : Addr) (v1 v2 : V) (Hs Hb : Hp) (p : Int) (u : List Int), vs = [.ref x, v1, v2] ∧ Hb x = none ∧ Hb dx = none ∧ dx ≠ x ∧ Ex Hs Hb ∧
  H = upd (upd Hb dx (.own x)) x (.ins C dx []) ∧ Rp ⟨K, C⟩ Hs v1 (.int p) ∧ Rp ⟨K, C⟩ Hs v2 (wd u) ∧ OkW p u ∧
  ∀ (Hs2 H2 : Hp) (vs : List (Option V)) (b : Addr), Stp Hs Hb Hs2 H2 → Hs2 x = none → Hs2 dx = none → H2 x = some (SlO x C dx vs) → H2 dx = some (.xd []) → vs[0]? = some (some (.int p)) → vs[2]? = some (some (.ref b)) →
    SqT K Hs2 b (u.map V.int) → Q .non H2
section
variable {W : Wc} {δ : List Sl} {tp tw : TE} {p : Int} {u : List Int}
theorem ev_make {E : XK} (hp : Ev W tp δ (.int p)) (hw : Ev W tw δ (wd u)) (ok : OkW p u) : Ev W (tMake W.c.C (spInit W.c.K W.c.C) [] E (tCons tp (tCons tw tNil))) δ (.br p u) := fun σ Hs H s Q q =>
  hp.run s fun v1 d1 Hs1 H1 st1 s1 p1 r1 => hw.run s1 fun v2 d2 Hs2 H2 st2 s2 p2 r2 => by
    subst p1
    subst p2
    intro x dx hx hdx hne
    have hxs : Hs2 x = none := fresh_back s2.sub hx
    have hdxs : Hs2 dx = none := fresh_back s2.sub hdx
    refine ⟨x, dx, v1, v2, Hs2, H2, p, u, rfl, hx, hdx, hne, s2.sub, rfl, r1.ex st2.ex1, r2, ok, fun Hs3 H3 vs b st3 h3x h3dx hX hDX v0 v2' hb => ?_⟩
    refine ⟨rfl, ?_⟩
    have est : Stp Hs2 H2 (upd (upd Hs3 dx (.xd [])) x (SlO x W.c.C dx vs)) H3 := by
      refine ⟨Ex.mut (Ex.mut st3.ex1 hdxs) hxs, st3.ex2, fun a o ha => ?_, fun a ha hb => ?_⟩
      · by_cases e1 : a = x
        · subst e1
          rw [upd_same] at ha
          cases ha
          exact hX
        · rw [upd_ne e1] at ha
          by_cases e2 : a = dx
          · subst e2
            rw [upd_same] at ha
            cases ha
            exact hDX
          · rw [upd_ne e2] at ha
            exact st3.sub a o ha
      · have n1 : a ≠ x := fun e => hb (by rw [e]; exact hx)
        have n2 : a ≠ dx := fun e => hb (by rw [e]; exact hdx)
        rw [upd_ne n1, upd_ne n2]
        exact st3.off a ha hb
    refine q (.ref x) (.br p u) _ _ ((st1.trans st2).trans est) rfl (.br upd_same ?_ v0 v2' ?_)
    · rw [upd_ne hne, upd_same]
    · exact ex_t (Ex.mut (Ex.mut (Ex.refl Hs3) h3dx) h3x) hb
end
/-! ### the body of __init__ -/
section
variable {K : PySem.W.Frag} {C x dx : Addr} {W : Wc} {δ : List Sl} {te : TE} {P : Dv → Prop} {vs : List (Option V)}
/-- what stands while the instance is filled -/
structure Ib (W : Wc) (x dx : Addr) (vs : List (Option V)) (δ : List Sl) (σ : L2.St) (Hs H : Hp) : Prop where
  sd : SD W δ σ Hs H
  self : σ[0]? = some (some (.ref x))
  sl : Slt H x W.c.C dx vs
  x0 : Hs x = none
  d0 : Hs dx = none
  dn : H dx ≠ none
theorem slt_ex {H H' : Hp} (h : Slt H x C dx vs) (e : Ex H H') : Slt H' x C dx vs := by
  rcases h with ⟨h, hv⟩ | ⟨h1, h2⟩
  · exact .inl ⟨e _ _ h, hv⟩
  · exact .inr ⟨e _ _ h1, e _ _ h2⟩
theorem slt_nn {H : Hp} (h : Slt H x C dx vs) : H x ≠ none := by
  rcases h with ⟨h, _⟩ | ⟨h, _⟩ <;> rw [h] <;> exact fun z => nomatch z
theorem ex_nn {H H' : Hp} (e : Ex H H') {a : Addr} (h : H a ≠ none) : H' a ≠ none := fun z => h (fresh_back e z)
theorem Ib.step {σ : L2.St} {Hs H Hs1 H1 : Hp} (i : Ib W x dx vs δ σ Hs H) (st : Stp Hs H Hs1 H1) (s1 : SD W δ σ Hs1 H1) : Ib W x dx vs δ σ Hs1 H1 :=
  ⟨s1, i.self, slt_ex i.sl st.ex2, st.off _ i.x0 (slt_nn i.sl), st.off _ i.d0 i.dn, ex_nn st.ex2 i.dn⟩
/-- self.f = e -/
theorem ib_set {f : Str} {pf : Addr} {k : Nat} {σ : L2.St} {Hs H : Hp} {D : Ends} (i : Ib W x dx vs δ σ Hs H) (hno : ∀ (j : Nat) (ds : List Dv), δ[j]? ≠ some (.own ds)) (hne : dx ≠ x) (bx : W.Hb x = none) (bdx : W.Hb dx = none) (cl : SCls W.c.K W.c.C) (t : Slot1 W.c.K W.c.C f pf k) (he : EP W te δ P)
    (nx : ∀ (Hs1 H1 : Hp) (v : V) (d : Dv), P d → Rp W.c Hs1 v d → Ex Hs Hs1 → Ib W x dx (putS k v vs) δ σ Hs1 H1 → H1 dx = some (.xd []) → H1 x = some (SlO x W.c.C dx (putS k v vs)) → D.nx σ H1) : sSl W.c.K (tVar 0) te f D σ H :=
  he.run i.sd fun v d Hs1 H1 st1 s1 pd rd => by
    have i1 := i.step st1 s1
    refine ⟨.ref x, i1.self, x, W.c.C, dx, pf, vs, k, rfl, i1.sl, cl, t, ?_⟩
    have hx1 := slH_slt (H := H1) (C := W.c.C) (vs := putS k v vs) hne
    have base : Stp W.Ho W.Hb Hs1 (slH H1 x W.c.C dx (putS k v vs)) := ⟨s1.stp.ex1, Ex.mut (Ex.mut s1.stp.ex2 bdx) bx, Ex.mut (Ex.mut s1.sub i1.d0) i1.x0, s1.stp.off⟩
    have hd : slH H1 x W.c.C dx (putS k v vs) dx = some (.xd []) := by
      unfold slH
      rw [upd_ne hne, upd_same]
    have hX : slH H1 x W.c.C dx (putS k v vs) x = some (SlO x W.c.C dx (putS k v vs)) := by
      unfold slH
      rw [upd_same]
    obtain ⟨P', a⟩ := s1.at_
    refine nx Hs1 _ v d pd rd st1.ex1 ⟨⟨base, s1.len, P', fun j sl o h1 h2 => ?_⟩, i1.self, hx1, i1.x0, i1.d0, by rw [hd]; exact fun z => nomatch z⟩ hd hX
    have q := a j sl o h1 h2
    cases sl with
    | non => trivial
    | val d => exact q
    | own es => exact absurd h1 (hno j es)
/-- a call for nothing -/
theorem ib_drop {σ : L2.St} {Hs H : Hp} {D : Ends} (i : Ib W x dx vs δ σ Hs H) (he : EP W te δ P) (nx : ∀ Hs1 H1, Ex Hs Hs1 → Ib W x dx vs δ σ Hs1 H1 → D.nx σ H1) : tDrop te D σ H :=
  he.run i.sd fun v d Hs1 H1 st1 s1 pd rd => nx Hs1 H1 st1.ex1 (i.step st1 s1)
/-- a test that is not met -/
theorem ib_if {t : TT} {ts tw : TS} {σ : L2.St} {Hs H : Hp} {D : Ends} (i : Ib W x dx vs δ σ Hs H) (ht : Et W t δ false) (nx : ∀ Hs1 H1, Ex Hs Hs1 → Ib W x dx vs δ σ Hs1 H1 → tw D σ H1) : tIfS t ts tw D σ H :=
  ht.run i.sd fun b Hs1 H1 st1 s1 pb => by
    subst pb
    exact nx Hs1 H1 st1.ex1 (i.step st1 s1)
end
/-- Branch.__init__ and the class that it belongs to -/
structure Made (P : Program) (w : World) (K : PySem.W.Frag) (mg : Str → Option Value) (base : Heap) (C : Addr) (k : Nat) : Prop where
  ex : ∃ f fd, Mk K C f ∧ FnOk P w K mg base CX0 k f fd ["self", "prime", "word"] (spInit K C) ∧ Binds K fd ["self", "prime", "word"] []
theorem pe_branch {X : Cx} {k : Nat} {C : Addr} {e : Expr} {es : List Expr} {t : TA} {p pos : Pos} (M : Made X.prog X.w X.K X.mg X.base C k) (hm : X.mg "Branch" = some (.ref C)) (hr : Room (k + 1) X.A) (hg : Gl X "Branch") (ha : PA X (e :: es) t)
    (he : starEach (e :: es) X.env = (false, eval e X.env) :: starEach es X.env := by rfl) (hpl : (backTo pos (starEach es X.env)).any (·.1) = false := by rfl) : PE X (.Call (.Name "Branch" p) (e :: es) [] pos) (tMake C (spInit X.K C) [] E0 t) := by
  obtain ⟨f, fd, M, F, b⟩ := M.ex
  exact pe_make M F hr hg hm b .nil pass0 ha (by decide) he hpl
end KD
set_option Elab.async false
set_option linter.all false
set_option maxRecDepth 100000
set_option maxHeartbeats 4000000
namespace KD
open PySem PySem.Spec PyProof.Rows L2
open Evl (Ex Ex.refl Ex.trans Ex.new Ex.mut ex_l ex_t fresh_back)
section
variable {W : Wc} {δ : List Sl} {te : TE} {P : Dv → Prop} {tz : TS} {N : List Sl → Prop} {R : Dv → Prop}
theorem ev_dct : Ev W tDNewK δ .dct := fun σ Hs H s Q q => fun p hp => q _ _ _ _ (Stp.new s.sub hp) rfl (.dct upd_same)
/-- a target of which is known only what the value says -/
theorem sq_asgGP {g : TG} {js : List Nat} (h : EP W te δ P) (k : ∀ d, P d → ∃ δ', TgD W g js d δ δ' ∧ Sx W tz δ' N R) : Sx W (tSeq (tAsg te g) tz) δ N R := fun σ Hs H s D hn hr =>
  h.run s fun v d Hs1 H1 st1 s1 pd rd => by
    obtain ⟨δ', tg, kx⟩ := k d pd
    exact tg σ Hs1 H1 v s1 rd _ fun σ' s' _ => kx σ' Hs1 H1 s' D (fun a b c d x y z => hn a b c d x (st1.ex1.trans y) z) hr
end
theorem op_notInX {X : Cx} {K : PySem.W.Frag} (h : X.K = K) : OpR X (compareOp .NotIn) (rIn K true) := by
  subst h
  exact op_notIn_seq
theorem pe_branchX {X : Cx} {K : PySem.W.Frag} {k : Nat} {C : Addr} {e : Expr} {es : List Expr} {t : TA} {p pos : Pos} (hK : X.K = K) (M : Made X.prog X.w X.K X.mg X.base C k) (hm : X.mg "Branch" = some (.ref C)) (hr : Room (k + 1) X.A) (hg : Gl X "Branch") (ha : PA X (e :: es) t)
    (he : starEach (e :: es) X.env = (false, eval e X.env) :: starEach es X.env := by rfl) (hpl : (backTo pos (starEach es X.env)).any (·.1) = false := by rfl) : PE X (.Call (.Name "Branch" p) (e :: es) [] pos) (tMake C (spInit K C) [] E0 t) := by
  subst hK
  exact pe_branch M hm hr hg ha he hpl
end KD
set_option Elab.async false
set_option linter.all false
set_option maxRecDepth 100000
set_option maxHeartbeats 4000000
namespace KD
open PySem PySem.Spec PyProof.Rows L2
open Evl (Ex Ex.refl Ex.trans Ex.new Ex.mut ex_l ex_t fresh_back)
local macro_rules | `(tactic| walk_at "kr") => `(tactic| first
  | with_reducible exact rv_int | with_reducible exact rv_bool | with_reducible exact rv_eqI | with_reducible exact rv_neI | with_reducible exact rv_eqW | with_reducible exact rv_neW | with_reducible exact rv_isN | with_reducible exact rv_notN
  | with_reducible exact rv_eqI' | with_reducible exact rv_neI' | with_reducible exact rv_eqL | with_reducible exact rv_neL | with_reducible exact rv_ltW | with_reducible exact rv_inI | with_reducible exact rv_niI | with_reducible exact rv_inT | with_reducible exact rv_niT | with_reducible exact rv_eqB | with_reducible exact rv_neB | with_reducible exact rv_eqS | with_reducible exact rv_neS)
local macro_rules | `(tactic| walk_at "kd") => `(tactic| first
  | ((with_reducible apply ev_var); rfl)
  | with_reducible exact ev_int | with_reducible exact ev_bl | with_reducible exact ev_non | with_reducible exact ev_str
  | ((with_reducible apply ev_neg); walk_at "kd")
  | ((with_reducible apply ev_op); walk_at "kd"; walk_at "kd"; walk_at "kr")
  | ((with_reducible apply et_test); walk_at "kd")
  | ((with_reducible apply et_B); walk_at "kd")
  | ((with_reducible apply et_not); walk_at "kd")
  | ((with_reducible apply ev_notV); walk_at "kd")
  | ((with_reducible apply ev_cb); walk_at "kd"; first | with_reducible exact cv_len_w | with_reducible exact cv_len_il | with_reducible exact cv_len_wds | with_reducible exact cv_len_t | with_reducible exact cv_len_l | with_reducible exact cv_tuple_l | with_reducible exact cv_tuple_t | with_reducible exact cv_list_l | with_reducible exact cv_list_t | with_reducible exact cv_len_s | with_reducible exact cv_abs | with_reducible exact cv_int | with_reducible exact cv_intb | with_reducible exact cv_max2 | with_reducible exact cv_min2 | with_reducible exact cv_all)
  | with_reducible exact ea_nil
  | ((with_reducible apply ea_cons); walk_at "kd"; walk_at "kd")
  | ((with_reducible apply ev_tup); walk_at "kd"; (first | decide | (simp; done) | (simp; omega)))
  | ((with_reducible apply ev_lst); walk_at "kd"; (first | decide | (simp; done) | (simp; omega)))
  | ((with_reducible apply ev_sliceW); walk_at "kd"; walk_at "ko"; walk_at "ko")
  | ((with_reducible apply ev_sliceI); walk_at "kd"; walk_at "ko"; walk_at "ko")
  | ((with_reducible apply ev_sliceT); walk_at "kd"; walk_at "ko"; walk_at "ko")
  | ((with_reducible apply ev_sliceL); walk_at "kd"; walk_at "ko"; walk_at "ko")
  | ((with_reducible apply ev_revL); walk_at "kd"))
local macro_rules | `(tactic| walk_at "ko") => `(tactic| first | with_reducible exact op_no | ((with_reducible apply op_so); walk_at "kd"))

section
variable {P : Program} {w : World} {K : PySem.W.Frag} {mg : Str → Option Value} {base : Heap} {C : Addr}
abbrev s_law_second : Stmt := topS 48
theorem sc_law_second : FnScope ["_law_point", "_law_size"] ["_law_point"] (defScope s_law_second) := ⟨rfl, rfl, rfl, by decide +kernel, rfl, by decide +kernel, by decide +kernel⟩
def ow : Option (List Int) → Dv
  | none => .non
  | some u => wd u
theorem d_second (B : Bl mg) (F : Here K mg "_law_second" s_law_second ["_law_point"]) :
    Def P w K mg base 1 "_law_second" ["_law_point"] (spF ⟨K, C⟩ (fun u : List Int => [wd u]) (fun u => u.length ≤ 100) (fun u d => d = ow (KM.second u))) := by
  refine def_ok F sc_law_second (fun _ => rfl) (fun f cdv A outer s H E hr => ⟨_, (have nd := sc_law_second.nd; (pss_cons (ps_set (i := 1) nd rfl (.inl rfl) (pe_callB call_len_seq (by rfl) B.b_len (by decide +kernel) (pa_cons (pv 0) pa_nil)))
    (pss_cons (ps_while PassesOwn.never (PW.pt (pw_and (pt_cmpR (op_gt) (pv 1) pe_int (nomark _)) (pw_and1 (pt_cmpR (op_eq) (pe_ix ix_tup (pv 0) (pe_op op_sub (pv 1) pe_int) (fun _ _ => rfl)) pe_int (nomark _)))))
    (pss_one (ps_set (i := 1) nd rfl (.inl rfl) (pe_op op_sub (pv 1) pe_int))))
    (pss_cons (ps_if (PW.pt (pw_or (pt_cmpR (op_lt) (pv 1) pe_int (nomark _)) (pw_or1 (pt_cmpR (op_ne) (pe_ix ix_tup (pv 0) (pe_op op_sub (pv 1) pe_int) (fun _ _ => rfl)) (pe_un un_neg pe_int) (nomark _)))))
    (pss_one (ps_ret pe_non))
    pss_nil)
    (pss_one (ps_ret (pe_callTy call_tuple_of (by rfl) B.b_tuple (by decide +kernel) (pa_cons (pe_slice sl_tupA (pv 0) po_none (po_some (pe_op op_sub (pv 1) pe_int))) pa_nil)))))))), fun Ho u hu => ?_⟩)
  dsimp only [cxK]
  show Sx _ _ [.val (wd u), .non] _ _
  refine sq_asg (by walk_at "kd") ?_
  have ix : ∀ n : Nat, n + 1 ≤ u.length → atI u (((n + 1 : Nat) : Int) - 1) = some (u.getD n 1) := fun n h => by
    have e : (((n + 1 : Nat) : Int) - 1) = (n : Int) := by omega
    rw [e]
    refine atI_nat ?_
    rw [List.getD_eq_getElem?_getD, List.getElem?_eq_getElem (by omega)]
    rfl
  refine sx_seq (N1 := fun δ => ∃ n : Nat, δ = [.val (wd u), .val (.int n)] ∧ n ≤ u.length ∧ KM.strip u u.length = n) (sx_while (fun δ => ∃ n : Nat, δ = [.val (wd u), .val (.int n)] ∧ n ≤ u.length ∧ KM.strip u n = KM.strip u u.length) (fun δ => match δ with | [_, .val (.int n)] => n.toNat | _ => 0) ⟨u.length, rfl, Nat.le_refl _, rfl⟩ ?_) ?_
  · rintro δ' ⟨n, rfl, hn, hs⟩
    cases n with
    | zero =>
      refine ⟨false, et_eq (et_and (m := false) (by walk_at "kd") (fun h0 => ?_)) (by simp), (fun z => nomatch z), fun _ => ⟨0, rfl, hn, hs.symm⟩⟩
      simp at h0
    | succ n =>
      refine ⟨decide (u.getD n 1 = 0), et_eq (et_and (by walk_at "kd") (fun h0 => by
          apply et_test
          apply ev_op
          · apply ev_op
            · walk_at "kd"
            · walk_at "kd"
            · exact rv_ixW (ix n (by omega))
          · walk_at "kd"
          · exact rv_eqI)) ?_, fun hk => ?_, fun hk => ?_⟩
      · simp
      · have hk' : u.getD n 1 = 0 := of_decide_eq_true hk
        refine sx_asg (by walk_at "kd") ⟨⟨n, ?_, by omega, ?_⟩, ?_⟩
        · show [Sl.val (wd u), Sl.val (Dv.int (((n + 1 : Nat) : Int) - 1))] = _
          have e : ((n + 1 : Nat) : Int) - 1 = (n : Int) := by omega
          rw [e]
        · rw [← hs]
          show _ = if u.getD n 1 = 0 then KM.strip u n else n + 1
          rw [if_pos hk']
        · show (((n + 1 : Nat) : Int) - 1).toNat < (((n + 1 : Nat) : Int)).toNat
          omega
      · have hk' : ¬ u.getD n 1 = 0 := of_decide_eq_false hk
        refine ⟨n + 1, rfl, hn, ?_⟩
        rw [← hs]
        show (if u.getD n 1 = 0 then KM.strip u n else n + 1) = n + 1
        rw [if_neg hk']
  · rintro δ' ⟨n, rfl, hn, e0⟩
    by_cases h2 : n < 2
    · refine sq_if (k := true) (et_eq (et_or (m := true) (by walk_at "kd") (fun z => ?_)) ?_) (fun _ => ?_) (fun z => nomatch z)
      · simp at z
        omega
      · simp
      · refine sq_ret ev_non ?_
        unfold KM.second
        rw [if_pos (.inl (by omega))]
        rfl
    · obtain ⟨m, rfl⟩ : ∃ m, n = m + 2 := ⟨n - 2, by omega⟩
      have hg : u.getD (m + 2 - 1) 0 = u.getD (m + 1) 1 := by
        rw [List.getD_eq_getElem?_getD, List.getD_eq_getElem?_getD, show m + 2 - 1 = m + 1 by omega, List.getElem?_eq_getElem (by omega)]
        rfl
      refine sq_if (k := decide (u.getD (m + 1) 1 ≠ -1)) (et_eq (et_or (by walk_at "kd") (fun _ => by
        apply et_test
        apply ev_op
        · apply ev_op
          · walk_at "kd"
          · walk_at "kd"
          · exact rv_ixW (ix (m + 1) (by omega))
        · walk_at "kd"
        · exact rv_neI)) ?_) (fun hk => ?_) (fun hk => ?_)
      · have : ¬ (((m + 2 : Nat) : Int) < 2) := by omega
        simp
        intro h
        omega
      · refine sq_ret ev_non ?_
        unfold KM.second
        rw [e0, if_pos]
        · rfl
        · right
          rw [hg]
          exact of_decide_eq_true hk
      · refine sx_nextS (sx_ret (by walk_at "kd") ?_)
        unfold KM.second
        rw [e0, if_neg]
        · show wd (cut u none (some (((m + 2 : Nat) : Int) - 2))) = wd (u.take (m + 2 - 2))
          have e : ((m + 2 : Nat) : Int) - 2 = ((m + 2 - 2 : Nat) : Int) := by omega
          rw [e, cut_to]
        · rw [hg]
          rintro (h | h)
          · omega
          · exact of_decide_eq_false hk h
end
end KD
set_option Elab.async false
set_option linter.all false
set_option maxRecDepth 100000
set_option maxHeartbeats 4000000
namespace KD
open PySem PySem.Spec PyProof.Rows L2
open Evl (Ex Ex.refl Ex.trans Ex.new Ex.mut ex_l ex_t fresh_back)

local macro_rules | `(tactic| walk_at "kr") => `(tactic| first
  | with_reducible exact rv_int | with_reducible exact rv_bool | with_reducible exact rv_eqI | with_reducible exact rv_neI | with_reducible exact rv_eqW | with_reducible exact rv_neW | with_reducible exact rv_isN | with_reducible exact rv_notN
  | with_reducible exact rv_eqI' | with_reducible exact rv_neI' | with_reducible exact rv_eqL | with_reducible exact rv_neL | with_reducible exact rv_ltW | with_reducible exact rv_inI | with_reducible exact rv_niI | with_reducible exact rv_inT | with_reducible exact rv_niT | with_reducible exact rv_eqB | with_reducible exact rv_neB | with_reducible exact rv_eqS | with_reducible exact rv_neS)
local macro_rules | `(tactic| walk_at "kd") => `(tactic| first
  | ((with_reducible apply ev_var); rfl)
  | with_reducible exact ev_int | with_reducible exact ev_bl | with_reducible exact ev_non | with_reducible exact ev_str
  | ((with_reducible apply ev_neg); walk_at "kd")
  | ((with_reducible apply ev_op); walk_at "kd"; walk_at "kd"; walk_at "kr")
  | ((with_reducible apply et_test); walk_at "kd")
  | ((with_reducible apply et_B); walk_at "kd")
  | ((with_reducible apply et_not); walk_at "kd")
  | ((with_reducible apply ev_notV); walk_at "kd")
  | ((with_reducible apply ev_cb); walk_at "kd"; first | with_reducible exact cv_len_w | with_reducible exact cv_len_il | with_reducible exact cv_len_wds | with_reducible exact cv_len_t | with_reducible exact cv_len_l | with_reducible exact cv_tuple_l | with_reducible exact cv_tuple_t | with_reducible exact cv_list_l | with_reducible exact cv_list_t | with_reducible exact cv_len_s | with_reducible exact cv_abs | with_reducible exact cv_int | with_reducible exact cv_intb | with_reducible exact cv_max2 | with_reducible exact cv_min2 | with_reducible exact cv_all)
  | with_reducible exact ea_nil
  | ((with_reducible apply ea_cons); walk_at "kd"; walk_at "kd")
  | ((with_reducible apply ev_tup); walk_at "kd"; (first | decide | (simp; done) | (simp; omega)))
  | ((with_reducible apply ev_lst); walk_at "kd"; (first | decide | (simp; done) | (simp; omega)))
  | ((with_reducible apply ev_sliceW); walk_at "kd"; walk_at "ko"; walk_at "ko")
  | ((with_reducible apply ev_sliceI); walk_at "kd"; walk_at "ko"; walk_at "ko")
  | ((with_reducible apply ev_sliceT); walk_at "kd"; walk_at "ko"; walk_at "ko")
  | ((with_reducible apply ev_sliceL); walk_at "kd"; walk_at "ko"; walk_at "ko")
  | ((with_reducible apply ev_revL); walk_at "kd"))
local macro_rules | `(tactic| walk_at "ko") => `(tactic| first | with_reducible exact op_no | ((with_reducible apply op_so); walk_at "kd"))

section
variable {P : Program} {w : World} {K : PySem.W.Frag} {mg : Str → Option Value} {base : Heap} {C : Addr}

abbrev s_law_nears : Stmt := topS 49
theorem sc_law_nears : FnScope ["_law_point", "_law_second_here"] ["_law_point"] (defScope s_law_nears) := ⟨rfl, rfl, rfl, by decide +kernel, rfl, by decide +kernel, by decide +kernel⟩
theorem d_nears (B : Bl mg) (F : Here K mg "_law_nears" s_law_nears ["_law_point"])
    (D_law_second : Def P w K mg base 1 "_law_second" ["_law_point"] (spF ⟨K, C⟩ (fun u : List Int => [wd u]) (fun u => u.length ≤ 100) (fun u d => d = ow (KM.second u)))) :
    Def P w K mg base 2 "_law_nears" ["_law_point"] (spF ⟨K, C⟩ (fun u : List Int => [wd u]) (fun u => u.length ≤ 100) (fun u d => d = wds (KM.nears u))) := by
  refine def_ok F sc_law_nears (fun _ => rfl) (fun f cdv A outer s H E hr => ⟨_, (have nd := sc_law_nears.nd; (pss_cons (ps_if (pt_cmpR (op_eqD (hu64 hr)) (pv 0) (pe_tup pa_nil) (nomark _))
    (pss_one (ps_ret (pe_lst pa_nil)))
    pss_nil)
    (pss_cons (ps_set (i := 1) nd rfl (.inl rfl) (pe_def D_law_second (hr.mono (by decide)) (by rfl) (pa_cons (pv 0) pa_nil)))
    (pss_one (ps_ret (pe_op op_cat (pe_lst (pa_cons (pe_callTy call_tuple_of (by rfl) B.b_tuple (by decide +kernel) (pa_cons (pe_slice sl_tupA (pv 0) po_none (po_some (pe_un un_neg pe_int))) pa_nil)) pa_nil)) (pe_ifExp (pt_cmpR (op_isN) (pv 1) pe_non (nomark _)) (pe_lst pa_nil) (pe_lst (pa_cons (pv 1) pa_nil))))))))), fun Ho u hu => ?_⟩)
  dsimp only [cxK]
  show Sx _ _ [.val (wd u), .non] _ _
  refine sq_if (k := decide (u = [])) (et_test (ev_op (by walk_at "kd") (ev_tup ea_nil (by decide)) (rv_eqW (u := [])))) (fun hk => ?_) (fun hk => ?_)
  · refine sq_ret (ev_lst ea_nil (by decide)) ?_
    unfold KM.nears
    rw [if_pos (of_decide_eq_true hk)]
    rfl
  · refine sx_nextS (sq_asg (ev_call u (by walk_at "kd") hu fun d h => h) ?_)
    cases e : KM.second u with
    | none =>
      refine sx_ret (ev_op (ev_lst (ea_cons (ev_cb (by walk_at "kd") cv_tuple_t) ea_nil) (by simp)) (ev_ifT (et_test (ev_op (ev_var rfl) ev_non rv_isN)) (ev_lst ea_nil (by decide))) (rv_cat (m := []) (by simp))) ?_
      unfold KM.nears
      rw [if_neg (of_decide_eq_false hk), e, cut_last]
      rfl
    | some v =>
      refine sx_ret (ev_op (ev_lst (ea_cons (ev_cb (by walk_at "kd") cv_tuple_t) ea_nil) (by simp)) (ev_ifF (et_test (ev_op (ev_var rfl) ev_non rv_isN)) (ev_lst (ea_cons (ev_var rfl) ea_nil) (by simp))) (rv_cat (m := [wd v]) (by simp))) ?_
      unfold KM.nears
      rw [if_neg (of_decide_eq_false hk), e, cut_last]
      rfl
abbrev s_law_corner_heights : Stmt := topS 50
theorem sc_law_corner_heights : FnScope ["_law_word", "_law_found", "_law_height"] ["_law_word"] (defScope s_law_corner_heights) := ⟨rfl, rfl, rfl, by decide +kernel, rfl, by decide +kernel, by decide +kernel⟩
theorem d_corners (B : Bl mg) (F : Here K mg "_law_corner_heights" s_law_corner_heights ["_law_word"])
    (D_law_nears : Def P w K mg base 2 "_law_nears" ["_law_point"] (spF ⟨K, C⟩ (fun u : List Int => [wd u]) (fun u => u.length ≤ 100) (fun u d => d = wds (KM.nears u)))) :
    Def P w K mg base 3 "_law_corner_heights" ["_law_word"] (spF ⟨K, C⟩ (fun u : List Int => [wd u]) (fun u => u.length ≤ 100) (fun u d => d = il (KM.corners u))) := by
  refine def_ok F sc_law_corner_heights (fun _ => rfl) (fun f cdv A outer s H E hr => ⟨_, (have nd := sc_law_corner_heights.nd; (pss_cons (ps_set (i := 1) nd rfl (.inl rfl) (pe_lst pa_nil))
    (pss_cons (ps_for PassesOwn.never rfl (pi_range1 (by rfl) B.b_range (pa_cons (pe_op op_add (pe_callB call_len_seq (by rfl) B.b_len (by decide +kernel) (pa_cons (pv 0) pa_nil)) pe_int) pa_nil)) (pg_name (i := 2) nd rfl (Or.inl rfl))
    (pss_one (ps_if (pt_cmpR (op_eq) (pe_callB call_len_seq (by rfl) B.b_len (by decide +kernel) (pa_cons (pe_def D_law_nears (hr.mono (by decide)) (by rfl) (pa_cons (pe_callTy call_tuple_of (by rfl) B.b_tuple (by decide +kernel) (pa_cons (pe_slice sl_tupA (pv 0) po_none (po_some (pv 2))) pa_nil)) pa_nil)) pa_nil)) pe_int (nomark _))
    (pss_one (ps_expr (pe_bm PySem.F.plainAttrs_list PySem.F.slot_list_append PySem.F.type_list_append mt_append (pv 1) (pa_cons (pv 2) pa_nil))))
    pss_nil)))
    (pss_one (ps_ret (pv 1)))))), fun Ho u hu => ?_⟩)
  dsimp only [cxK]
  show Sx _ _ [.val (wd u), .non, .non] _ _
  refine sq_own ea_nil (by decide) rfl ?_
  refine sq_for [2] (Py := fun ys => ys = rngD 0 ((u.length : Int) + 1).toNat) (iv_rng1 (by walk_at "kd") (by omega) (by omega)) (fun _ i δ => ∃ z : Sl, z.isOwn = false ∧ δ = [.val (wd u), .own ((((List.range i).filter (KM.isCorner u)).map fun h : Nat => (h : Int)).map Dv.int), z]) (fun _ _ => ⟨.non, rfl, rfl⟩) ?_ ?_
  · rintro ys i d δ' rfl hd ⟨z, hz, rfl⟩
    obtain ⟨hi, rfl⟩ := rngD_get hd
    have hi' : i ≤ u.length := by omega
    rw [Int.zero_add]
    have tk : (List.range (i + 1)).filter (KM.isCorner u) = (List.range i).filter (KM.isCorner u) ++ if KM.isCorner u i = true then [i] else [] := by
      rw [List.range_succ, List.filter_append]
      by_cases h : KM.isCorner u i = true
      · simp [h]
      · simp [h]
    refine ⟨_, tg_name, ?_⟩
    refine sx_if (k := KM.isCorner u i) ?_ (fun hk => ?_) (fun hk => ?_)
    · refine et_eq (et_test (ev_op (ev_cb (ea_cons (ev_call (d := wds (KM.nears (u.take i))) (u.take i) (ea_cons (ev_eq (ev_cb (ea_cons (ev_sliceW (by walk_at "kd") op_no (by walk_at "ko")) ea_nil) cv_tuple_t) (by rw [cut_to])) ea_nil) (by rw [List.length_take]; omega) (fun d h => h)) ea_nil) cv_len_wds) ev_int rv_eqI)) ?_
      unfold KM.isCorner
      rw [Bool.eq_iff_iff]
      simp
      omega
    · refine sx_app (P := fun d => d = .int (i : Nat)) rfl rfl rfl ?_ (by walk_at "kd") ?_
      · simp
        have := List.length_filter_le (KM.isCorner u) (List.range i)
        rw [List.length_range] at this
        omega
      · rintro d rfl
        refine ⟨.val (.int (i : Nat)), rfl, ?_⟩
        rw [tk, if_pos hk]
        simp
    · refine sx_next ⟨.val (.int (i : Nat)), rfl, ?_⟩
      rw [tk, if_neg (by rw [hk]; decide), List.append_nil]
      rfl
  · rintro ys δ' rfl ⟨z, hz, rfl⟩
    refine sx_freeze (i := 1) rfl (by cases z <;> first | rfl | cases hz) (sx_ret (ev_var rfl) ?_)
    unfold KM.corners
    rw [rngD_len]
    have e : ((u.length : Int) + 1).toNat = u.length + 1 := by omega
    rw [e]
end
end KD
set_option Elab.async false
set_option linter.all false
set_option maxRecDepth 100000
set_option maxHeartbeats 4000000
namespace KD
open PySem PySem.Spec PyProof.Rows L2
open Evl (Ex Ex.refl Ex.trans Ex.new Ex.mut ex_l ex_t fresh_back)

local macro_rules | `(tactic| walk_at "kr") => `(tactic| first
  | with_reducible exact rv_int | with_reducible exact rv_bool | with_reducible exact rv_eqI | with_reducible exact rv_neI | with_reducible exact rv_eqW | with_reducible exact rv_neW | with_reducible exact rv_isN | with_reducible exact rv_notN
  | with_reducible exact rv_eqI' | with_reducible exact rv_neI' | with_reducible exact rv_eqL | with_reducible exact rv_neL | with_reducible exact rv_ltW | with_reducible exact rv_inI | with_reducible exact rv_niI | with_reducible exact rv_inT | with_reducible exact rv_niT | with_reducible exact rv_eqB | with_reducible exact rv_neB | with_reducible exact rv_eqS | with_reducible exact rv_neS)
local macro_rules | `(tactic| walk_at "kd") => `(tactic| first
  | ((with_reducible apply ev_var); rfl)
  | with_reducible exact ev_int | with_reducible exact ev_bl | with_reducible exact ev_non | with_reducible exact ev_str
  | ((with_reducible apply ev_neg); walk_at "kd")
  | ((with_reducible apply ev_op); walk_at "kd"; walk_at "kd"; walk_at "kr")
  | ((with_reducible apply et_test); walk_at "kd")
  | ((with_reducible apply et_B); walk_at "kd")
  | ((with_reducible apply et_not); walk_at "kd")
  | ((with_reducible apply ev_notV); walk_at "kd")
  | ((with_reducible apply ev_cb); walk_at "kd"; first | with_reducible exact cv_len_w | with_reducible exact cv_len_il | with_reducible exact cv_len_wds | with_reducible exact cv_len_t | with_reducible exact cv_len_l | with_reducible exact cv_tuple_l | with_reducible exact cv_tuple_t | with_reducible exact cv_list_l | with_reducible exact cv_list_t | with_reducible exact cv_len_s | with_reducible exact cv_abs | with_reducible exact cv_int | with_reducible exact cv_intb | with_reducible exact cv_max2 | with_reducible exact cv_min2 | with_reducible exact cv_all)
  | with_reducible exact ea_nil
  | ((with_reducible apply ea_cons); walk_at "kd"; walk_at "kd")
  | ((with_reducible apply ev_tup); walk_at "kd"; (first | decide | (simp; done) | (simp; omega)))
  | ((with_reducible apply ev_lst); walk_at "kd"; (first | decide | (simp; done) | (simp; omega)))
  | ((with_reducible apply ev_sliceW); walk_at "kd"; walk_at "ko"; walk_at "ko")
  | ((with_reducible apply ev_sliceI); walk_at "kd"; walk_at "ko"; walk_at "ko")
  | ((with_reducible apply ev_sliceT); walk_at "kd"; walk_at "ko"; walk_at "ko")
  | ((with_reducible apply ev_sliceL); walk_at "kd"; walk_at "ko"; walk_at "ko")
  | ((with_reducible apply ev_revL); walk_at "kd"))
local macro_rules | `(tactic| walk_at "ko") => `(tactic| first | with_reducible exact op_no | ((with_reducible apply op_so); walk_at "kd"))

section
variable {P : Program} {w : World} {K : PySem.W.Frag} {mg : Str → Option Value} {base : Heap} {C : Addr}

def oi : Option Int → Dv
  | none => .non
  | some i => .int i
def prD (p : KM.Pr) : Dv := .tup [oi p.1, oi p.2]
theorem addO_ev {W : Wc} {δ : List Sl} {i j : Nat} {o q : Option Int} (hi : δ[i]? = some (.val (oi o))) (hj : δ[j]? = some (.val (oi q))) (hg : ∃ x, o = some x) :
    Ev W (tIf (tTest (tOp (fun x y H Q => y = V.non ∧ Q (V.bl (decide (x = V.non))) H) (tVar j) (tC V.non))) (tC V.non) (tOp (rI0 fun i j => V.int (i + j)) (tVar i) (tVar j))) δ (oi (KM.addO o q)) := by
  obtain ⟨x, rfl⟩ := hg
  cases q with
  | none => exact ev_ifT (et_test (ev_op (ev_var hj) ev_non rv_isN)) ev_non
  | some q => exact ev_ifF (et_test (ev_op (ev_var hj) ev_non rv_isN)) (ev_op (ev_var hi) (ev_var hj) rv_int)
theorem noOwn_of3 {ds : List Dv} {z2 z3 z4 : Sl} (h2 : z2.isOwn = false) (h3 : z3.isOwn = false) (h4 : z4.isOwn = false) {d : Dv} : noOwn [.val d, .own ds, z2, z3, z4] 1 = true := by
  unfold noOwn
  show (!(false || (false || (z2.isOwn || (z3.isOwn || (z4.isOwn || false)))))) = true
  rw [h2, h3, h4]
  rfl
abbrev s_law_orders : Stmt := topS 46
theorem sc_law_orders : FnScope ["_law_word", "_law_found", "_law_letter_here", "_law_one", "_law_other"] ["_law_word"] (defScope s_law_orders) := ⟨rfl, rfl, rfl, by decide +kernel, rfl, by decide +kernel, by decide +kernel⟩
theorem d_orders (B : Bl mg) (F : Here K mg "_law_orders" s_law_orders ["_law_word"]) :
    Def P w K mg base 1 "_law_orders" ["_law_word"] (spF ⟨K, C⟩ (fun u : List Int => [wd u]) (fun u => KM.Valid u ∧ u.length ≤ 100) (fun u d => d = .lst ((KM.ordersM u).map prD))) := by
  refine def_ok F sc_law_orders (fun _ => rfl) (fun f cdv A outer s H E hr => ⟨_, (have nd := sc_law_orders.nd; (pss_cons (ps_set (i := 1) nd rfl (.inl rfl) (pe_lst (pa_cons (pe_tup (pa_cons pe_int (pa_cons pe_non pa_nil))) pa_nil)))
    (pss_cons (ps_for PassesOwn.never rfl (pi_tup (pe_revT (pv 0))) (pg_name (i := 2) nd rfl (Or.inl rfl))
    (pss_cons (ps_asg (pe_ix ix_list (pv 1) (pe_un un_neg pe_int) (fun _ _ => rfl)) (pg_tup (by rfl) (pgs_cons (pg_name (i := 3) nd rfl (.inl rfl)) (pgs_cons (pg_name (i := 4) nd rfl (.inl rfl)) pgs_nil))))
    (pss_one (ps_if (pt_cmpR (op_eq) (pv 2) (pe_un un_neg pe_int) (nomark _))
    (pss_one (ps_expr (pe_bm PySem.F.plainAttrs_list PySem.F.slot_list_append PySem.F.type_list_append mt_append (pv 1) (pa_cons (pe_tup (pa_cons (pe_ifExp (pt_cmpR (op_isN) (pv 4) pe_non (nomark _)) pe_non (pe_op op_add (pv 3) (pv 4))) (pa_cons (pv 3) pa_nil))) pa_nil))))
    (pss_one (ps_if (pt_cmpR (op_eq) (pv 2) pe_int (nomark _))
    (pss_one (ps_expr (pe_bm PySem.F.plainAttrs_list PySem.F.slot_list_append PySem.F.type_list_append mt_append (pv 1) (pa_cons (pe_tup (pa_cons (pv 3) (pa_cons (pe_ifExp (pt_cmpR (op_isN) (pv 4) pe_non (nomark _)) pe_non (pe_op op_add (pv 3) (pv 4))) pa_nil))) pa_nil))))
    (pss_one (ps_expr (pe_bm PySem.F.plainAttrs_list PySem.F.slot_list_append PySem.F.type_list_append mt_append (pv 1) (pa_cons (pe_tup (pa_cons (pv 3) (pa_cons (pv 3) pa_nil))) pa_nil))))))))))
    (pss_one (ps_ret (pe_revL (pv 1))))))), fun Ho u hu => ?_⟩)
  obtain ⟨hv, hl⟩ := hu
  dsimp only [cxK]
  show Sx _ _ [.val (wd u), .non, .non, .non, .non] _ _
  refine sq_own (ds := [.tup [.int 1, .non]]) (ea_cons (by walk_at "kd") ea_nil) (by decide) rfl ?_
  refine sq_for [2] (Py := fun ys => ys = (u.map Dv.int).reverse) (iv_tup (ev_revT (by walk_at "kd"))) (fun _ i δ => ∃ z2 z3 z4 : Sl, z2.isOwn = false ∧ z3.isOwn = false ∧ z4.isOwn = false ∧ δ = [.val (wd u), .own ((KM.states (some 1, none) (u.reverse.take i)).map prD), z2, z3, z4]) (fun _ _ => ⟨.non, .non, .non, rfl, rfl, rfl, rfl⟩) ?_ ?_
  · rintro ys i d δ' rfl hd ⟨z2, z3, z4, h2, h3, h4, rfl⟩
    obtain ⟨a, ha, rfl⟩ : ∃ a, u.reverse[i]? = some a ∧ d = .int a := by
      rw [← List.map_reverse, List.getElem?_map] at hd
      cases e : u.reverse[i]? with
      | none => rw [e] at hd; cases hd
      | some a => rw [e] at hd; exact ⟨a, rfl, (Option.some.inj hd).symm⟩
    have hi : i < u.length := by
      have := (List.getElem?_eq_some_iff.mp ha).1
      simpa using this
    obtain ⟨xs, hx⟩ := KM.states_last (u.reverse.take i) (some 1, none)
    obtain ⟨o, ho⟩ := KM.states_first hv i hi
    have hlen := KM.states_len (u.reverse.take i) (some 1, none)
    have nxt : (KM.states (some 1, none) (u.reverse.take (i + 1))).map prD = (KM.states (some 1, none) (u.reverse.take i)).map prD ++ [prD (KM.stepO ((u.reverse.take i).foldl KM.stepO (some 1, none)) a)] := by
      rw [List.take_add_one, ha]
      show (KM.states (some 1, none) (u.reverse.take i ++ [a])).map prD = _
      rw [KM.states_snoc, List.map_append]
      rfl
    generalize (u.reverse.take i).foldl KM.stepO (some 1, none) = p at hx ho nxt
    obtain ⟨p1, p2⟩ := p
    have ho' : p1 = some o := ho
    have hat : atI ((KM.states (some 1, none) (u.reverse.take i)).map prD) (-1) = some (prD (p1, p2)) := by
      rw [hx, List.map_append]
      exact atI_last _ _
    have hlt : ((KM.states (some 1, none) (u.reverse.take i)).map prD).length < 100000 := by
      rw [List.length_map, hlen, List.length_take]
      omega
    refine ⟨_, tg_name, ?_⟩
    refine sq_asgG (ev_ixOwn (i := -1) rfl (ev_neg ev_int) hat) tg_pair ?_
    have fin : ∀ {te : TE} {N : List Sl → Prop} {R : Dv → Prop}, Ev ⟨⟨K, C⟩, Ho, H⟩ te [.val (wd u), .own ((KM.states (some 1, none) (u.reverse.take i)).map prD), .val (.int a), .val (oi p1), .val (oi p2)] (prD (KM.stepO (p1, p2) a)) →
        (∀ δ, δ = [.val (wd u), .own ((KM.states (some 1, none) (u.reverse.take (i + 1))).map prD), .val (.int a), .val (oi p1), .val (oi p2)] → N δ) →
        Sx ⟨⟨K, C⟩, Ho, H⟩ (tDrop (tBM K "list" rAppend (tVar 1) (tCons te tNil))) [.val (wd u), .own ((KM.states (some 1, none) (u.reverse.take i)).map prD), .val (.int a), .val (oi p1), .val (oi p2)] N R := fun he hk =>
      sx_app (i := 1) rfl rfl rfl hlt he (fun d e => by
        subst e
        refine hk _ ?_
        rw [nxt]
        rfl)
    have done : ∀ δ, δ = [Sl.val (wd u), .own ((KM.states (some 1, none) (u.reverse.take (i + 1))).map prD), .val (.int a), .val (oi p1), .val (oi p2)] → ∃ z2 z3 z4 : Sl, z2.isOwn = false ∧ z3.isOwn = false ∧ z4.isOwn = false ∧ δ = [.val (wd u), .own ((KM.states (some 1, none) (u.reverse.take (i + 1))).map prD), z2, z3, z4] := fun δ e => ⟨_, _, _, rfl, rfl, rfl, e⟩
    refine sx_if (k := decide (a = -1)) (by walk_at "kd") (fun hk => fin ?_ done) (fun hk => ?_)
    · have ea : a = -1 := of_decide_eq_true hk
      have es : KM.stepO (p1, p2) a = (KM.addO p1 p2, p1) := by
        unfold KM.stepO
        rw [if_pos ea]
      rw [es]
      exact ev_tup (ea_cons (addO_ev rfl rfl ⟨o, ho'⟩) (ea_cons (ev_var rfl) ea_nil)) (by simp)
    · have ea : ¬ a = -1 := of_decide_eq_false hk
      refine sx_if (k := decide (a = 0)) (by walk_at "kd") (fun hk2 => fin ?_ done) (fun hk2 => fin ?_ done)
      · have es : KM.stepO (p1, p2) a = (p1, KM.addO p1 p2) := by
          unfold KM.stepO
          rw [if_neg ea, if_pos (of_decide_eq_true hk2)]
        rw [es]
        exact ev_tup (ea_cons (ev_var rfl) (ea_cons (addO_ev rfl rfl ⟨o, ho'⟩) ea_nil)) (by simp)
      · have es : KM.stepO (p1, p2) a = (p1, p1) := by
          unfold KM.stepO
          rw [if_neg ea, if_neg (of_decide_eq_false hk2)]
        rw [es]
        exact ev_tup (ea_cons (ev_var rfl) (ea_cons (ev_var rfl) ea_nil)) (by simp)
  · rintro ys δ' rfl ⟨z2, z3, z4, h2, h3, h4, rfl⟩
    refine sx_freeze (i := 1) rfl (noOwn_of3 h2 h3 h4) (sx_ret (ev_revL (ev_var rfl)) ?_)
    unfold KM.ordersM
    rw [List.map_reverse, List.take_of_length_le (by simp)]
end
end KD
set_option Elab.async false
set_option linter.all false
set_option maxRecDepth 100000
set_option maxHeartbeats 4000000
namespace KD
open PySem PySem.Spec PyProof.Rows L2
open Evl (Ex Ex.refl Ex.trans Ex.new Ex.mut ex_l ex_t fresh_back)

local macro_rules | `(tactic| walk_at "kr") => `(tactic| first
  | with_reducible exact rv_int | with_reducible exact rv_bool | with_reducible exact rv_eqI | with_reducible exact rv_neI | with_reducible exact rv_eqW | with_reducible exact rv_neW | with_reducible exact rv_isN | with_reducible exact rv_notN
  | with_reducible exact rv_eqI' | with_reducible exact rv_neI' | with_reducible exact rv_eqL | with_reducible exact rv_neL | with_reducible exact rv_ltW | with_reducible exact rv_inI | with_reducible exact rv_niI | with_reducible exact rv_inT | with_reducible exact rv_niT | with_reducible exact rv_eqB | with_reducible exact rv_neB | with_reducible exact rv_eqS | with_reducible exact rv_neS)
local macro_rules | `(tactic| walk_at "kd") => `(tactic| first
  | ((with_reducible apply ev_var); rfl)
  | with_reducible exact ev_int | with_reducible exact ev_bl | with_reducible exact ev_non | with_reducible exact ev_str
  | ((with_reducible apply ev_neg); walk_at "kd")
  | ((with_reducible apply ev_op); walk_at "kd"; walk_at "kd"; walk_at "kr")
  | ((with_reducible apply et_test); walk_at "kd")
  | ((with_reducible apply et_B); walk_at "kd")
  | ((with_reducible apply et_not); walk_at "kd")
  | ((with_reducible apply ev_notV); walk_at "kd")
  | ((with_reducible apply ev_cb); walk_at "kd"; first | with_reducible exact cv_len_w | with_reducible exact cv_len_il | with_reducible exact cv_len_wds | with_reducible exact cv_len_t | with_reducible exact cv_len_l | with_reducible exact cv_tuple_l | with_reducible exact cv_tuple_t | with_reducible exact cv_list_l | with_reducible exact cv_list_t | with_reducible exact cv_len_s | with_reducible exact cv_abs | with_reducible exact cv_int | with_reducible exact cv_intb | with_reducible exact cv_max2 | with_reducible exact cv_min2 | with_reducible exact cv_all)
  | with_reducible exact ea_nil
  | ((with_reducible apply ea_cons); walk_at "kd"; walk_at "kd")
  | ((with_reducible apply ev_tup); walk_at "kd"; (first | decide | (simp; done) | (simp; omega)))
  | ((with_reducible apply ev_lst); walk_at "kd"; (first | decide | (simp; done) | (simp; omega)))
  | ((with_reducible apply ev_sliceW); walk_at "kd"; walk_at "ko"; walk_at "ko")
  | ((with_reducible apply ev_sliceI); walk_at "kd"; walk_at "ko"; walk_at "ko")
  | ((with_reducible apply ev_sliceT); walk_at "kd"; walk_at "ko"; walk_at "ko")
  | ((with_reducible apply ev_sliceL); walk_at "kd"; walk_at "ko"; walk_at "ko")
  | ((with_reducible apply ev_revL); walk_at "kd"))
local macro_rules | `(tactic| walk_at "ko") => `(tactic| first | with_reducible exact op_no | ((with_reducible apply op_so); walk_at "kd"))

section
variable {P : Program} {w : World} {K : PySem.W.Frag} {mg : Str → Option Value} {base : Heap} {C : Addr}

/-- the ints among two -/
def someI : List (Option Int) → List Int
  | [] => []
  | none :: r => someI r
  | some i :: r => i :: someI r
theorem someI_filter : ∀ l : List (Option Int), ((l.map oi).filter fun d => !isNon d).map (fun d => d) = (someI l).map Dv.int
  | [] => rfl
  | none :: r => by
    have ih := someI_filter r
    rw [List.map_cons, List.filter_cons, if_neg (by decide : ¬ (!isNon (oi none)) = true)]
    exact ih
  | some i :: r => by
    have ih := someI_filter r
    rw [List.map_cons, List.filter_cons, if_pos (by rfl : (!isNon (oi (some i))) = true), List.map_cons]
    exact congrArg (Dv.int i :: ·) ih
theorem cnt_least {p : KM.Pr} (h : KM.GoodP p) : 0 < (someI [p.1, p.2]).length ∧ ∀ m : Int, m ∈ someI [p.1, p.2] → (∀ y ∈ someI [p.1, p.2], m ≤ y) → m = KM.cnt p := by
  rcases h with rfl | rfl | ⟨k, hk, o, q, rfl, h1, h2, h3, h4⟩
  · refine ⟨by decide, fun m hm _ => ?_⟩
    have hm' : m ∈ [(1 : Int)] := hm
    rw [List.mem_singleton.mp hm']
    rfl
  · refine ⟨by decide, fun m hm _ => ?_⟩
    have hm' : m ∈ [(1 : Int)] := hm
    rw [List.mem_singleton.mp hm']
    rfl
  · refine ⟨Nat.zero_lt_succ _, fun m hm hl => ?_⟩
    have hm' : m ∈ [o, q] := hm
    have l1 : m ≤ o := hl o (by show o ∈ [o, q]; simp)
    have l2 : m ≤ q := hl q (by show q ∈ [o, q]; simp)
    show m = if q < o then q else o
    rcases List.mem_cons.mp hm' with e | hm'
    · subst e
      rw [if_neg (by omega)]
    · have e := List.mem_singleton.mp hm'
      subst e
      split <;> omega
abbrev s_law_counts : Stmt := topS 47
theorem sc_law_counts : FnScope ["_law_word", "_law_size", "_law_found", "_law_one", "_law_other", "_law_order"] ["_law_word", "_law_size"] (defScope s_law_counts) := ⟨rfl, rfl, rfl, by decide +kernel, rfl, by decide +kernel, by decide +kernel⟩
theorem d_counts (B : Bl mg) (F : Here K mg "_law_counts" s_law_counts ["_law_word", "_law_size"])
    (D_law_orders : Def P w K mg base 1 "_law_orders" ["_law_word"] (spF ⟨K, C⟩ (fun u : List Int => [wd u]) (fun u => KM.Valid u ∧ u.length ≤ 100) (fun u d => d = .lst ((KM.ordersM u).map prD)))) :
    Def P w K mg base 2 "_law_counts" ["_law_word", "_law_size"] (spF ⟨K, C⟩ (fun a : List Int × Nat => [wd a.1, .int a.2]) (fun a => KM.Valid a.1 ∧ a.1.length ≤ 100 ∧ a.2 ≤ 200) (fun a d => d = il (KM.countsM a.1 a.2))) := by
  refine def_ok F sc_law_counts (fun _ => rfl) (fun f cdv A outer s H E hr => ⟨_, (have nd := sc_law_counts.nd; (pss_cons (ps_set (i := 2) nd rfl (.inl rfl) (pe_lst pa_nil))
    (pss_cons (ps_for PassesOwn.never rfl (pi_list (pe_def D_law_orders (hr.mono (by decide)) (by rfl) (pa_cons (pv 0) pa_nil))) (pg_tup rfl (pgs_cons (pg_name (i := 3) nd rfl (Or.inl rfl)) (pgs_cons (pg_name (i := 4) nd rfl (Or.inl rfl)) pgs_nil)))
    (pss_one (ps_expr (pe_bm PySem.F.plainAttrs_list PySem.F.slot_list_append PySem.F.type_list_append mt_append (pv 2) (pa_cons (pe_callB (cr_min rfl) (by rfl) B.b_min (by decide +kernel) (pa_cons (pe_lc (own := [("_law_order", 5)]) (g := gName 5) (tt := _) rfl nd (pi_tup (pe_tup (pa_cons (pv 3) (pa_cons (pv 4) pa_nil)))) (blkOk_by (own := [("_law_order", 5)]) (N := ["_law_word", "_law_size", "_law_found", "_law_one", "_law_other", "_law_order"]) (sc := defScope s_law_counts) (by decide +kernel)) (fun _ _ _ _ _ => pg_name (i := 5) nd rfl (Or.inl rfl)) (fun _ _ _ _ _ => pts_one (pt_cmpR (op_notN) (pv 5) pe_non (nomark _))) (fun _ _ _ _ _ => (pv 5))) pa_nil)) pa_nil)))))
    (pss_one (ps_ret (pe_slice sl_list (pe_op op_cat (pv 2) (pe_op op_rep (pe_lst (pa_cons pe_int pa_nil)) (pv 1))) po_none (po_some (pv 1)))))))), fun Ho a hu => ?_⟩)
  obtain ⟨u, n⟩ := a
  obtain ⟨hv, hl, hn⟩ := hu
  dsimp only at hv hl hn
  dsimp only [cxK]
  show Sx _ _ [.val (wd u), .val (.int n), .non, .non, .non, .non] _ _
  refine sq_own (ds := []) ea_nil (by decide) rfl ?_
  refine sq_for [3, 4] (Py := fun ys => ys = (KM.ordersM u).map prD) (iv_list (ev_call u (by walk_at "kd") ⟨hv, hl⟩ fun d h => h)) (fun _ i δ => ∃ z3 z4 : Sl, z3.isOwn = false ∧ z4.isOwn = false ∧ δ = [.val (wd u), .val (.int n), .own ((((KM.ordersM u).take i).map KM.cnt).map Dv.int), z3, z4, .non]) (fun _ _ => ⟨.non, .non, rfl, rfl, rfl⟩) ?_ ?_
  · rintro ys i d δ' rfl hd ⟨z3, z4, h3, h4, rfl⟩
    obtain ⟨p, hp, rfl⟩ : ∃ p, (KM.ordersM u)[i]? = some p ∧ d = prD p := by
      rw [List.getElem?_map] at hd
      cases e : (KM.ordersM u)[i]? with
      | none => rw [e] at hd; cases hd
      | some p => rw [e] at hd; exact ⟨p, rfl, (Option.some.inj hd).symm⟩
    have hg := KM.orders_good hv hl p (List.mem_of_getElem? hp)
    have hil : i < u.length + 1 := by
      have := (List.getElem?_eq_some_iff.mp hp).1
      rw [KM.orders_len] at this
      exact this
    obtain ⟨c0, cl⟩ := cnt_least hg
    refine ⟨_, tg_pair, ?_⟩
    refine sx_app (i := 2) (P := fun d => d = .int (KM.cnt p)) rfl rfl rfl ?_ ?_ ?_
    · simp
      omega
    · refine EP.mono (ep_cb (Pq := fun ds => ds = [il (someI [p.1, p.2])]) (ea_cons (ev_eq (ev_lc (js := [5]) (fun d => !isNon d) (fun d => d) (iv_tup (ev_tup (ea_cons (ev_var (d := oi p.1) rfl) (ea_cons (ev_var (d := oi p.2) rfl) ea_nil)) (by simp))) (by simp) (by simp) fun d hd => ⟨_, tg_name, et_test (ev_op (ev_var rfl) ev_non rv_notN), fun _ => ev_var rfl⟩) ?_) ea_nil) (fun ds e => by subst e; exact cp_min c0)) ?_
      · show Dv.lst ((([p.1, p.2].map oi).filter fun d => !isNon d).map (fun d => d)) = il (someI [p.1, p.2])
        rw [someI_filter]
      · rintro d ⟨m, rfl, hm, hle⟩
        rw [cl m hm hle]
    · rintro d rfl
      refine ⟨.val (oi p.1), .val (oi p.2), rfl, rfl, ?_⟩
      rw [List.take_add_one, hp, List.map_append, List.map_append]
      rfl
  · rintro ys δ' rfl ⟨z3, z4, h3, h4, rfl⟩
    have no : noOwn [.val (wd u), .val (.int n), .own ((((KM.ordersM u).take ((KM.ordersM u).map prD).length).map KM.cnt).map Dv.int), z3, z4, .non] 2 = true := by
      unfold noOwn
      show (!(false || (false || (false || (z3.isOwn || (z4.isOwn || (false || false))))))) = true
      rw [h3, h4]
      rfl
    refine sx_freeze (i := 2) rfl no (sx_ret (ev_sliceI (w := (KM.ordersM u).map KM.cnt ++ List.replicate n 1) (ev_op (ev_eq (e := il ((KM.ordersM u).map KM.cnt)) (ev_var rfl) ?_) (ev_eq (e := il (List.replicate n 1)) (ev_op (ev_lst (ea_cons ev_int ea_nil) (by simp)) (ev_var rfl) (rv_rep1 (k := (n : Int)) (by omega) (by omega))) ?_) (rv_catI ?_)) op_no (op_so (ev_var rfl))) ?_)
    · rw [List.length_map, List.take_of_length_le (Nat.le_refl _)]
    · simp [il]
    · rw [List.length_map, KM.orders_len, List.length_replicate]
      omega
    · rw [cut_to]
      rfl
end
end KD
set_option Elab.async false
set_option linter.all false
set_option maxRecDepth 100000
set_option maxHeartbeats 4000000
namespace KD
open PySem PySem.Spec PyProof.Rows L2
open Evl (Ex Ex.refl Ex.trans Ex.new Ex.mut ex_l ex_t fresh_back)

local macro_rules | `(tactic| walk_at "kr") => `(tactic| first
  | with_reducible exact rv_int | with_reducible exact rv_bool | with_reducible exact rv_eqI | with_reducible exact rv_neI | with_reducible exact rv_eqW | with_reducible exact rv_neW | with_reducible exact rv_isN | with_reducible exact rv_notN
  | with_reducible exact rv_eqI' | with_reducible exact rv_neI' | with_reducible exact rv_eqL | with_reducible exact rv_neL | with_reducible exact rv_ltW | with_reducible exact rv_inI | with_reducible exact rv_niI | with_reducible exact rv_inT | with_reducible exact rv_niT | with_reducible exact rv_eqB | with_reducible exact rv_neB | with_reducible exact rv_eqS | with_reducible exact rv_neS)
local macro_rules | `(tactic| walk_at "kd") => `(tactic| first
  | ((with_reducible apply ev_var); rfl)
  | with_reducible exact ev_int | with_reducible exact ev_bl | with_reducible exact ev_non | with_reducible exact ev_str
  | ((with_reducible apply ev_neg); walk_at "kd")
  | ((with_reducible apply ev_op); walk_at "kd"; walk_at "kd"; walk_at "kr")
  | ((with_reducible apply et_test); walk_at "kd")
  | ((with_reducible apply et_B); walk_at "kd")
  | ((with_reducible apply et_not); walk_at "kd")
  | ((with_reducible apply ev_notV); walk_at "kd")
  | ((with_reducible apply ev_cb); walk_at "kd"; first | with_reducible exact cv_len_w | with_reducible exact cv_len_il | with_reducible exact cv_len_wds | with_reducible exact cv_len_t | with_reducible exact cv_len_l | with_reducible exact cv_tuple_l | with_reducible exact cv_tuple_t | with_reducible exact cv_list_l | with_reducible exact cv_list_t | with_reducible exact cv_len_s | with_reducible exact cv_abs | with_reducible exact cv_int | with_reducible exact cv_intb | with_reducible exact cv_max2 | with_reducible exact cv_min2 | with_reducible exact cv_all)
  | with_reducible exact ea_nil
  | ((with_reducible apply ea_cons); walk_at "kd"; walk_at "kd")
  | ((with_reducible apply ev_tup); walk_at "kd"; (first | decide | (simp; done) | (simp; omega)))
  | ((with_reducible apply ev_lst); walk_at "kd"; (first | decide | (simp; done) | (simp; omega)))
  | ((with_reducible apply ev_sliceW); walk_at "kd"; walk_at "ko"; walk_at "ko")
  | ((with_reducible apply ev_sliceI); walk_at "kd"; walk_at "ko"; walk_at "ko")
  | ((with_reducible apply ev_sliceT); walk_at "kd"; walk_at "ko"; walk_at "ko")
  | ((with_reducible apply ev_sliceL); walk_at "kd"; walk_at "ko"; walk_at "ko")
  | ((with_reducible apply ev_revL); walk_at "kd"))
local macro_rules | `(tactic| walk_at "ko") => `(tactic| first | with_reducible exact op_no | ((with_reducible apply op_so); walk_at "kd"))

section
variable {P : Program} {w : World} {K : PySem.W.Frag} {mg : Str → Option Value} {base : Heap} {C : Addr}

theorem noOwn_of8 {a b c e f : Dv} {ds : List Dv} {z6 z7 : Sl} (h6 : z6.isOwn = false) (h7 : z7.isOwn = false) : noOwn [.val a, .val b, .val c, .own ds, .val e, .val f, z6, z7] 3 = true := by
  unfold noOwn
  show (!(false || (false || (false || (false || (false || (false || (z6.isOwn || (z7.isOwn || false))))))))) = true
  rw [h6, h7]
  rfl
theorem KM.genGo_step (C : List Int) (f : List Int) (sh sq : Int) (h : Nat) (c : Int) (cs : List Int) :
    KM.genGo C f sh sq h (c :: cs) = if C.contains (h : Int) && !C.contains ((h : Int) + 1) then KM.genGo C (f ++ [(sq + c * c) / sh]) c (sq + c * c) (h + 1) cs else KM.genGo C f sh (sq + c * c) (h + 1) cs := rfl
abbrev s_law_generators : Stmt := topS 51
theorem sc_law_generators : FnScope ["_law_word", "_law_counts_here", "_law_corners", "_law_found", "_law_shared", "_law_squares", "_law_height", "_law_count"] ["_law_word"] (defScope s_law_generators) := ⟨rfl, rfl, rfl, by decide +kernel, rfl, by decide +kernel, by decide +kernel⟩
theorem d_generators (B : Bl mg) (F : Here K mg "_law_generators" s_law_generators ["_law_word"])
    (D_law_counts : Def P w K mg base 2 "_law_counts" ["_law_word", "_law_size"] (spF ⟨K, C⟩ (fun a : List Int × Nat => [wd a.1, .int a.2]) (fun a => KM.Valid a.1 ∧ a.1.length ≤ 100 ∧ a.2 ≤ 200) (fun a d => d = il (KM.countsM a.1 a.2))))
    (D_law_corner_heights : Def P w K mg base 3 "_law_corner_heights" ["_law_word"] (spF ⟨K, C⟩ (fun u : List Int => [wd u]) (fun u => u.length ≤ 100) (fun u d => d = il (KM.corners u)))) :
    Def P w K mg base 4 "_law_generators" ["_law_word"] (spF ⟨K, C⟩ (fun u : List Int => [wd u]) (fun u => KM.Valid u ∧ u.length ≤ 100) (fun u d => d = wd (KM.gensM u))) := by
  refine def_ok F sc_law_generators (fun _ => rfl) (fun f cdv A outer s H E hr => ⟨_, (have nd := sc_law_generators.nd; (pss_cons (ps_par (i := 1) (j := 2) rfl nd rfl rfl (by decide) rfl rfl (pa_cons (pe_def D_law_counts (hr.mono (by decide)) (by rfl) (pa_cons (pv 0) (pa_cons (pe_op op_add (pe_callB call_len_seq (by rfl) B.b_len (by decide +kernel) (pa_cons (pv 0) pa_nil)) pe_int) pa_nil))) (pa_cons (pe_def D_law_corner_heights (hr.mono (by decide)) (by rfl) (pa_cons (pv 0) pa_nil)) pa_nil)) (by rfl))
    (pss_cons (ps_par3 (i := 3) (j := 4) (l := 5) rfl nd rfl rfl rfl (by decide) (by decide) (by decide) rfl rfl rfl (pa_cons (pe_lst (pa_cons (pe_ix ix_list (pv 1) pe_int (fun _ _ => rfl)) pa_nil)) (pa_cons (pe_ix ix_list (pv 1) pe_int (fun _ _ => rfl)) (pa_cons pe_int pa_nil))) (by rfl))
    (pss_cons (ps_for PassesOwn.never rfl (pi_enum (by rfl) B.b_enumerate (pa_cons (pv 1) pa_nil)) (pg_tup rfl (pgs_cons (pg_name (i := 6) nd rfl (Or.inl rfl)) (pgs_cons (pg_name (i := 7) nd rfl (Or.inl rfl)) pgs_nil)))
    (pss_cons (ps_set (i := 5) nd rfl (.inl rfl) (pe_op op_add (pv 5) (pe_op op_mulW (pv 7) (pv 7))))
    (pss_one (ps_if (PW.pt (pw_and (pt_cmpR (op_in_seq) (pv 6) (pv 2) (by rfl)) (pw_and1 (pt_cmpR (op_notIn_seq) (pe_op op_add (pv 6) pe_int) (pv 2) (by rfl)))))
    (pss_cons (ps_expr (pe_bm PySem.F.plainAttrs_list PySem.F.slot_list_append PySem.F.type_list_append mt_append (pv 3) (pa_cons (pe_op op_fdivW (pv 5) (pv 4)) pa_nil)))
    (pss_one (ps_set (i := 4) nd rfl (.inl rfl) (pv 7))))
    pss_nil))))
    (pss_one (ps_ret (pe_callTy call_tuple_of (by rfl) B.b_tuple (by decide +kernel) (pa_cons (pv 3) pa_nil)))))))), fun Ho u hu => ?_⟩)
  obtain ⟨hv, hl⟩ := hu
  dsimp only [cxK]
  show Sx _ _ [.val (wd u), .non, .non, .non, .non, .non, .non, .non] _ _
  have hcl := KM.counts_len u (u.length + 1)
  have hcg := KM.counts_good hv hl (u.length + 1)
  have hgen : KM.genGo (KM.corners u) [(KM.countsM u (u.length + 1)).getD 0 0] ((KM.countsM u (u.length + 1)).getD 0 0) 0 0 (KM.countsM u (u.length + 1)) = KM.gensM u := rfl
  refine sq_par (a := il (KM.countsM u (u.length + 1))) (ev_call (u, u.length + 1) (ea_cons (ev_var rfl) (ea_cons (ev_op (ev_cb (ea_cons (ev_var rfl) ea_nil) cv_len_w) ev_int rv_int) ea_nil)) ⟨hv, hl, by omega⟩ fun d h => h) (ev_call u (by walk_at "kd") hl fun d h => h) ?_
  generalize KM.countsM u (u.length + 1) = cs at hcl hcg hgen
  generalize KM.corners u = CC at hgen
  obtain ⟨c0, cr, rfl⟩ : ∃ c0 cr, cs = c0 :: cr := by
    cases cs with
    | nil => simp at hcl
    | cons a b => exact ⟨a, b, rfl⟩
  have hg0 := hcg c0 (List.mem_cons_self ..)
  refine sq_par3own (ds := [.int c0]) (b := .int c0) (ea_cons (ev_op (ev_var rfl) ev_int (rv_ixI (atI_nat (j := 0) rfl))) ea_nil) (by simp) (ev_op (ev_var rfl) ev_int (rv_ixI (atI_nat (j := 0) rfl))) ev_int rfl ?_
  refine sq_for [6, 7] (Py := fun ys => ys = enumD 0 ((c0 :: cr).map Dv.int)) (iv_enum (by walk_at "kd")) (fun _ i δ => ∃ (fo : List Int) (sh sq : Int) (z6 z7 : Sl), KM.genGo CC fo sh sq i ((c0 :: cr).drop i) = KM.gensM u ∧ 1 ≤ sh ∧ sh < 2 ^ 101 ∧ fo.length ≤ i + 1 ∧ z6.isOwn = false ∧ z7.isOwn = false ∧ δ = [.val (wd u), .val (il (c0 :: cr)), .val (il CC), .own (fo.map Dv.int), .val (.int sh), .val (.int sq), z6, z7]) (fun _ _ => ⟨[c0], c0, 0, .non, .non, hgen, hg0.1, hg0.2, by simp, rfl, rfl, rfl⟩) ?_ ?_
  · rintro ys i d δ' rfl hd ⟨fo, sh, sq, z6, z7, hi, h1, h2, hfl, h6, h7, rfl⟩
    obtain ⟨d0, hd0, rfl⟩ := enumD_get hd
    obtain ⟨c, hc, rfl⟩ : ∃ c, (c0 :: cr)[i]? = some c ∧ d0 = .int c := by
      rw [List.getElem?_map] at hd0
      cases e : (c0 :: cr)[i]? with
      | none => rw [e] at hd0; cases hd0
      | some p => rw [e] at hd0; exact ⟨p, rfl, (Option.some.inj hd0).symm⟩
    have hil : i < u.length + 1 := by
      have := (List.getElem?_eq_some_iff.mp hc).1
      omega
    have hcc := hcg c (List.mem_of_getElem? hc)
    have hdr : (c0 :: cr).drop i = c :: (c0 :: cr).drop (i + 1) := by
      rw [List.drop_eq_getElem_cons (List.getElem?_eq_some_iff.mp hc).1, (List.getElem?_eq_some_iff.mp hc).2]
    rw [hdr, KM.genGo_step] at hi
    refine ⟨_, tg_pair, ?_⟩
    have hz : (0 + i : Nat) = i := Nat.zero_add i
    rw [hz]
    have mulw : CMulW c c := wide_mul (a := 101) (b := 101) (by have := hcc.2; have := hcc.1; omega) (by have := hcc.2; have := hcc.1; omega) (by decide) (by decide) (by decide)
    have divw : ∀ q, CDivW q sh := fun q => wide_div (b := 101) (by omega) (by omega) (by decide) (by decide)
    refine sq_asg (d := .int (sq + c * c)) (ev_op (ev_var rfl) (ev_op (ev_var rfl) (ev_var rfl) (rv_intC mulw)) rv_int) ?_
    refine sx_if (k := CC.contains (i : Int) && !CC.contains ((i : Int) + 1)) (et_and (et_test (ev_op (ev_var rfl) (ev_var rfl) rv_inI)) fun _ => et_test (ev_op (ev_op (ev_var rfl) ev_int rv_int) (ev_var rfl) rv_niI)) (fun hk => ?_) (fun hk => ?_)
    · rw [if_pos hk] at hi
      refine sq_app (i := 3) rfl rfl (noOwn_of8 rfl rfl) (by simp; omega) (P := fun d => d = .int ((sq + c * c) / sh)) (ev_op (ev_var rfl) (ev_var rfl) (rv_intC (divw _))) ?_
      rintro d rfl
      refine sx_asg (ev_var (d := .int c) rfl) ?_
      refine ⟨fo ++ [(sq + c * c) / sh], c, sq + c * c, .val (.int (i : Int)), .val (.int c), hi, hcc.1, hcc.2, by simp; omega, rfl, rfl, ?_⟩
      rw [List.map_append]
      rfl
    · rw [if_neg (by rw [hk]; decide)] at hi
      exact sx_next ⟨fo, sh, sq + c * c, .val (.int (i : Int)), .val (.int c), hi, h1, h2, by omega, rfl, rfl, rfl⟩
  · rintro ys δ' rfl ⟨fo, sh, sq, z6, z7, hi, h1, h2, hfl, h6, h7, rfl⟩
    have hn : (enumD 0 ((c0 :: cr).map Dv.int)).length = (c0 :: cr).length := by rw [enumD_len, List.length_map]
    rw [hn, List.drop_length] at hi
    refine sx_freeze (i := 3) rfl (noOwn_of8 h6 h7) (sx_ret (ev_cb (ea_cons (ev_var rfl) ea_nil) cv_tuple_l) ?_)
    exact congrArg wd hi
abbrev s_law_kd_size : Stmt := topS 56
theorem sc_law_kd_size : FnScope ["_law_word", "_law_corners"] ["_law_word"] (defScope s_law_kd_size) := ⟨rfl, rfl, rfl, by decide +kernel, rfl, by decide +kernel, by decide +kernel⟩
theorem d_kd_size (B : Bl mg) (F : Here K mg "_law_kd_size" s_law_kd_size ["_law_word"])
    (D_law_corner_heights : Def P w K mg base 3 "_law_corner_heights" ["_law_word"] (spF ⟨K, C⟩ (fun u : List Int => [wd u]) (fun u => u.length ≤ 100) (fun u d => d = il (KM.corners u)))) :
    Def P w K mg base 4 "_law_kd_size" ["_law_word"] (spF ⟨K, C⟩ (fun u : List Int => [wd u]) (fun u => u.length ≤ 100) (fun u d => d = .int (KM.kdSize u))) := by
  refine def_ok F sc_law_kd_size (fun _ => rfl) (fun f cdv A outer s H E hr => ⟨_, (have nd := sc_law_kd_size.nd; (pss_cons (ps_set (i := 1) nd rfl (.inl rfl) (pe_def D_law_corner_heights (hr.mono (by decide)) (by rfl) (pa_cons (pv 0) pa_nil)))
    (pss_one (ps_ret (pe_ifExp (pt_cmpR (op_neD (hu64 hr)) (pv 1) (pe_lst pa_nil) (nomark _)) (pe_op op_add (pe_ix ix_list (pv 1) (pe_un un_neg pe_int) (fun _ _ => rfl)) pe_int) pe_int))))), fun Ho u hu => ?_⟩)
  dsimp only [cxK]
  show Sx _ _ [.val (wd u), .non] _ _
  refine sq_asg (ev_call u (by walk_at "kd") hu fun d h => h) ?_
  have hk : KM.kdSize u = (match (KM.corners u).getLast? with | none => 0 | some c => c + 1) := rfl
  rw [hk]
  generalize KM.corners u = CC
  rcases List.eq_nil_or_concat CC with rfl | ⟨xs, x, rfl⟩
  · exact sx_ret (ev_ifF (et_test (ev_op (ev_var rfl) (ev_eq (e := il []) (ev_lst ea_nil (by simp)) rfl) rv_neI')) ev_int) rfl
  · have hne : (!decide (xs.concat x = [])) = true := by
      rw [List.concat_eq_append, decide_eq_false (by simp)]
      rfl
    have hat : atI (xs ++ [x]) (-1) = some x := atI_last _ _
    rw [List.concat_eq_append] at hne ⊢
    refine sx_ret (d := .int (x + 1)) (ev_ifT ?_ (ev_op (ev_op (ev_var rfl) (ev_neg ev_int) (rv_ixI hat)) ev_int rv_int)) ?_
    · rw [← hne]
      exact et_test (ev_op (ev_var rfl) (ev_eq (e := il []) (ev_lst ea_nil (by simp)) rfl) rv_neI')
    · rw [List.getLast?_concat]
end
end KD
set_option Elab.async false
set_option linter.all false
set_option maxRecDepth 100000
set_option maxHeartbeats 4000000
namespace KD
open PySem PySem.Spec PyProof.Rows L2
open Evl (Ex Ex.refl Ex.trans Ex.new Ex.mut ex_l ex_t fresh_back)

local macro_rules | `(tactic| walk_at "kr") => `(tactic| first
  | with_reducible exact rv_int | with_reducible exact rv_bool | with_reducible exact rv_eqI | with_reducible exact rv_neI | with_reducible exact rv_eqW | with_reducible exact rv_neW | with_reducible exact rv_isN | with_reducible exact rv_notN
  | with_reducible exact rv_eqI' | with_reducible exact rv_neI' | with_reducible exact rv_eqL | with_reducible exact rv_neL | with_reducible exact rv_ltW | with_reducible exact rv_inI | with_reducible exact rv_niI | with_reducible exact rv_inT | with_reducible exact rv_niT | with_reducible exact rv_eqB | with_reducible exact rv_neB | with_reducible exact rv_eqS | with_reducible exact rv_neS)
local macro_rules | `(tactic| walk_at "kd") => `(tactic| first
  | ((with_reducible apply ev_var); rfl)
  | with_reducible exact ev_int | with_reducible exact ev_bl | with_reducible exact ev_non | with_reducible exact ev_str
  | ((with_reducible apply ev_neg); walk_at "kd")
  | ((with_reducible apply ev_op); walk_at "kd"; walk_at "kd"; walk_at "kr")
  | ((with_reducible apply et_test); walk_at "kd")
  | ((with_reducible apply et_B); walk_at "kd")
  | ((with_reducible apply et_not); walk_at "kd")
  | ((with_reducible apply ev_notV); walk_at "kd")
  | ((with_reducible apply ev_cb); walk_at "kd"; first | with_reducible exact cv_len_w | with_reducible exact cv_len_il | with_reducible exact cv_len_wds | with_reducible exact cv_len_t | with_reducible exact cv_len_l | with_reducible exact cv_tuple_l | with_reducible exact cv_tuple_t | with_reducible exact cv_list_l | with_reducible exact cv_list_t | with_reducible exact cv_len_s | with_reducible exact cv_abs | with_reducible exact cv_int | with_reducible exact cv_intb | with_reducible exact cv_max2 | with_reducible exact cv_min2 | with_reducible exact cv_all)
  | with_reducible exact ea_nil
  | ((with_reducible apply ea_cons); walk_at "kd"; walk_at "kd")
  | ((with_reducible apply ev_tup); walk_at "kd"; (first | decide | (simp; done) | (simp; omega)))
  | ((with_reducible apply ev_lst); walk_at "kd"; (first | decide | (simp; done) | (simp; omega)))
  | ((with_reducible apply ev_sliceW); walk_at "kd"; walk_at "ko"; walk_at "ko")
  | ((with_reducible apply ev_sliceI); walk_at "kd"; walk_at "ko"; walk_at "ko")
  | ((with_reducible apply ev_sliceT); walk_at "kd"; walk_at "ko"; walk_at "ko")
  | ((with_reducible apply ev_sliceL); walk_at "kd"; walk_at "ko"; walk_at "ko")
  | ((with_reducible apply ev_revL); walk_at "kd"))
local macro_rules | `(tactic| walk_at "ko") => `(tactic| first | with_reducible exact op_no | ((with_reducible apply op_so); walk_at "kd"))

section
variable {P : Program} {w : World} {K : PySem.W.Frag} {mg : Str → Option Value} {base : Heap} {C : Addr}

/-- not a letter -/
def badL (p : Int) : Dv → Bool
  | .int a => !true || (false || !(decide (-1 ≤ a) && decide (a < p)))
  | _ => false
theorem badL_filter (p : Int) : ∀ w : List Int, (w.map Dv.int).filter (badL p) = (w.filter fun a => !(decide (-1 ≤ a) && decide (a < p))).map Dv.int
  | [] => rfl
  | a :: w => by
    have e : badL p (.int a) = !(decide (-1 ≤ a) && decide (a < p)) := rfl
    rw [List.map_cons, List.filter_cons, List.filter_cons, e]
    split
    · rw [List.map_cons, badL_filter p w]
    · exact badL_filter p w
abbrev s_law_wd_is_point : Stmt := topS 52
theorem sc_law_wd_is_point : FnScope ["_law_prime", "_law_value", "_law_bad", "_law_one"] ["_law_prime", "_law_value"] (defScope s_law_wd_is_point) := ⟨rfl, rfl, rfl, by decide +kernel, rfl, by decide +kernel, by decide +kernel⟩
theorem d_wd_is_point (B : Bl mg) (F : Here K mg "_law_wd_is_point" s_law_wd_is_point ["_law_prime", "_law_value"]) :
    Def P w K mg base 1 "_law_wd_is_point" ["_law_prime", "_law_value"] (spF ⟨K, C⟩ (fun a : Int × List Int => [.int a.1, wd a.2]) (fun a => a.2.length ≤ 100) (fun a d => d = .bl (KM.wdPoint a.1 a.2))) := by
  refine def_ok F sc_law_wd_is_point (fun _ => rfl) (fun f cdv A outer s H E hr => ⟨_, (have nd := sc_law_wd_is_point.nd; (pss_cons (ps_if (PW.pt (pw_or (pt_not (pt_val (pe_callB (call_isiX (K := K) rfl) (by rfl) B.b_isinstance (by decide +kernel) (pa_cons (pv 1) (pa_cons (pe_bltn (v := .ty "tuple") (by rfl) B.b_tuple (by decide +kernel) rfl) pa_nil))))) (pw_or1 (pt_cmpR (op_gt) (pe_callB call_len_seq (by rfl) B.b_len (by decide +kernel) (pa_cons (pv 1) pa_nil)) pe_int (nomark _)))))
    (pss_one (ps_ret pe_bl))
    pss_nil)
    (pss_cons (ps_setLc (i := 2) (own := [("_law_one", 3)]) (g := gName 3) (tt := _) rfl nd rfl rfl (sw_true rfl rfl rfl (by decide +kernel)) (pi_tup (pv 1)) (blkOk_by (own := [("_law_one", 3)]) (N := ["_law_prime", "_law_value", "_law_bad", "_law_one"]) (sc := defScope s_law_wd_is_point) (by decide +kernel)) (fun _ _ _ _ _ => pg_name (i := 3) nd rfl (Or.inl rfl)) (fun _ _ _ _ _ => pts_one (PW.pt (pw_or (pt_not (pt_val (pe_callB (call_isiX (K := K) rfl) (by rfl) B.b_isinstance (by decide +kernel) (pa_cons (pv 3) (pa_cons (pe_bltn (v := .ty "int") (by rfl) B.b_int (by decide +kernel) rfl) pa_nil))))) (pw_or (pt_val (pe_callB (call_isiX (K := K) rfl) (by rfl) B.b_isinstance (by decide +kernel) (pa_cons (pv 3) (pa_cons (pe_bltn (v := .ty "bool") (by rfl) B.b_bool (by decide +kernel) rfl) pa_nil)))) (pw_or1 (pt_not (pt_chain (op_le) (op_lt) (pe_un un_neg pe_int) (pv 3) (pv 0)))))))) (fun _ _ _ _ _ => (pv 3)))
    (pss_one (ps_ret (pe_cmpR (op_eqD (hu64 hr)) (pv 2) (pe_lst pa_nil) (nomark _))))))), fun Ho a hu => ?_⟩)
  obtain ⟨p, u⟩ := a
  dsimp only [cxK] at hu ⊢
  show Sx _ _ [.val (.int p), .val (wd u), .non, .non] _ _
  refine sq_if (k := !true || decide ((u.length : Int) > 60)) (et_or (et_not (et_B (ev_isi (T := "tuple") (ev_var rfl) rfl (by decide +kernel)))) fun _ => et_test (ev_op (ev_cb (ea_cons (ev_var rfl) ea_nil) cv_len_w) ev_int rv_bool)) (fun hk => ?_) (fun hk => ?_)
  · refine sq_ret ev_bl ?_
    have h60 : ¬ u.length ≤ 60 := by
      have := of_decide_eq_true (show decide ((u.length : Int) > 60) = true from hk)
      omega
    rw [KM.wdPoint, decide_eq_false h60]
    rfl
  · have h60 : u.length ≤ 60 := by
      have := of_decide_eq_false (show decide ((u.length : Int) > 60) = false from hk)
      omega
    refine sx_nextS (sq_asg (d := il (u.filter fun a => !(decide (-1 ≤ a) && decide (a < p)))) (ev_eq (ev_lc (js := [3]) (badL p) (fun d => d) (iv_tup (ev_var (d := wd u) rfl)) (by simp; omega) (by simp) fun d hd => ?_) ?_) ?_)
    · obtain ⟨a, ha, rfl⟩ := List.mem_map.mp hd
      exact ⟨_, tg_name, et_or (et_not (et_B (ev_isi (T := "int") (t := "int") (b := true) (ev_var (d := .int a) rfl) rfl (by decide +kernel)))) fun _ => et_or (et_B (ev_isi (T := "bool") (t := "int") (b := false) (ev_var (d := .int a) rfl) rfl (by decide +kernel))) fun _ => et_not (et_test (ev_chain (ev_neg ev_int) (ev_var rfl) rv_bool fun _ => ⟨ev_var rfl, rv_bool⟩)), fun _ => ev_var rfl⟩
    · rw [badL_filter, List.map_id']
    · refine sx_ret (ev_op (ev_var rfl) (ev_eq (e := il []) (ev_lst ea_nil (by simp)) rfl) rv_eqI') ?_
      rw [KM.wdPoint, decide_eq_true h60, Bool.true_and]
      congr 1
      rw [Bool.eq_iff_iff, decide_eq_true_iff, List.filter_eq_nil_iff, List.all_eq_true]
      simp
abbrev s_law_wd_is_word : Stmt := topS 53
theorem sc_law_wd_is_word : FnScope ["_law_prime", "_law_value"] ["_law_prime", "_law_value"] (defScope s_law_wd_is_word) := ⟨rfl, rfl, rfl, by decide +kernel, rfl, by decide +kernel, by decide +kernel⟩
theorem d_wd_is_word (B : Bl mg) (F : Here K mg "_law_wd_is_word" s_law_wd_is_word ["_law_prime", "_law_value"])
    (D_law_wd_is_point : Def P w K mg base 1 "_law_wd_is_point" ["_law_prime", "_law_value"] (spF ⟨K, C⟩ (fun a : Int × List Int => [.int a.1, wd a.2]) (fun a => a.2.length ≤ 100) (fun a d => d = .bl (KM.wdPoint a.1 a.2)))) :
    Def P w K mg base 2 "_law_wd_is_word" ["_law_prime", "_law_value"] (spF ⟨K, C⟩ (fun a : Int × List Int => [.int a.1, wd a.2]) (fun a => a.2.length ≤ 100) (fun a d => d = .bl (KM.wdWord a.1 a.2))) := by
  refine def_ok F sc_law_wd_is_word (fun _ => rfl) (fun f cdv A outer s H E hr => ⟨_, (have nd := sc_law_wd_is_word.nd; (pss_one (ps_ret (pe_and (pe_def D_law_wd_is_point (hr.mono (by decide)) (by rfl) (pa_cons (pv 0) (pa_cons (pv 1) pa_nil))) (pe_one (pe_or (pe_cmpR (op_inD (hu65 hr)) (pv 1) (pe_lst (pa_cons (pe_tup pa_nil) (pa_cons (pe_tup (pa_cons (pe_un un_neg pe_int) pa_nil)) pa_nil))) (by rfl)) (pe_one (pe_cmpR (op_gt) (pe_ix ix_tup (pv 1) (pe_un un_neg pe_int) (fun _ _ => rfl)) pe_int (nomark _))))))))), fun Ho a hu => ?_⟩)
  obtain ⟨p, u⟩ := a
  dsimp only [cxK] at hu ⊢
  show Sx _ _ [.val (.int p), .val (wd u)] _ _
  refine sx_ret (d := .bl (KM.wdPoint p u && ([[], [-1]].contains u || decide (u.getLastD 1 > 0)))) (ev_andV (ev_call (p, u) (by walk_at "kd") hu fun d h => h) fun _ => ev_orV (ev_op (ev_var rfl) (ev_eq (e := wds [[], [-1]]) (ev_lst (ea_cons (ev_tup ea_nil (by simp)) (ea_cons (ev_tup (ea_cons (ev_neg ev_int) ea_nil) (by simp)) ea_nil)) (by simp)) rfl) rv_inW) fun hc => ?_) rfl
  rcases List.eq_nil_or_concat u with rfl | ⟨xs, x, rfl⟩
  · exact absurd hc (by decide)
  · rw [List.concat_eq_append]
    have e : (xs ++ [x]).getLastD 1 = x := by simp
    rw [e]
    exact ev_op (ev_op (ev_var rfl) (ev_neg ev_int) (rv_ixW (atI_last _ _))) ev_int rv_bool
end
end KD
set_option Elab.async false
set_option linter.all false
set_option maxRecDepth 100000
set_option maxHeartbeats 4000000
namespace KD
open PySem PySem.Spec PyProof.Rows L2
open Evl (Ex Ex.refl Ex.trans Ex.new Ex.mut ex_l ex_t fresh_back)

local macro_rules | `(tactic| walk_at "kr") => `(tactic| first
  | with_reducible exact rv_int | with_reducible exact rv_bool | with_reducible exact rv_eqI | with_reducible exact rv_neI | with_reducible exact rv_eqW | with_reducible exact rv_neW | with_reducible exact rv_isN | with_reducible exact rv_notN
  | with_reducible exact rv_eqI' | with_reducible exact rv_neI' | with_reducible exact rv_eqL | with_reducible exact rv_neL | with_reducible exact rv_ltW | with_reducible exact rv_inI | with_reducible exact rv_niI | with_reducible exact rv_inT | with_reducible exact rv_niT | with_reducible exact rv_eqB | with_reducible exact rv_neB | with_reducible exact rv_eqS | with_reducible exact rv_neS)
local macro_rules | `(tactic| walk_at "kd") => `(tactic| first
  | ((with_reducible apply ev_var); rfl)
  | with_reducible exact ev_int | with_reducible exact ev_bl | with_reducible exact ev_non | with_reducible exact ev_str
  | ((with_reducible apply ev_neg); walk_at "kd")
  | ((with_reducible apply ev_op); walk_at "kd"; walk_at "kd"; walk_at "kr")
  | ((with_reducible apply et_test); walk_at "kd")
  | ((with_reducible apply et_B); walk_at "kd")
  | ((with_reducible apply et_not); walk_at "kd")
  | ((with_reducible apply ev_notV); walk_at "kd")
  | ((with_reducible apply ev_cb); walk_at "kd"; first | with_reducible exact cv_len_w | with_reducible exact cv_len_il | with_reducible exact cv_len_wds | with_reducible exact cv_len_t | with_reducible exact cv_len_l | with_reducible exact cv_tuple_l | with_reducible exact cv_tuple_t | with_reducible exact cv_list_l | with_reducible exact cv_list_t | with_reducible exact cv_len_s | with_reducible exact cv_abs | with_reducible exact cv_int | with_reducible exact cv_intb | with_reducible exact cv_max2 | with_reducible exact cv_min2 | with_reducible exact cv_all)
  | with_reducible exact ea_nil
  | ((with_reducible apply ea_cons); walk_at "kd"; walk_at "kd")
  | ((with_reducible apply ev_tup); walk_at "kd"; (first | decide | (simp; done) | (simp; omega)))
  | ((with_reducible apply ev_lst); walk_at "kd"; (first | decide | (simp; done) | (simp; omega)))
  | ((with_reducible apply ev_sliceW); walk_at "kd"; walk_at "ko"; walk_at "ko")
  | ((with_reducible apply ev_sliceI); walk_at "kd"; walk_at "ko"; walk_at "ko")
  | ((with_reducible apply ev_sliceT); walk_at "kd"; walk_at "ko"; walk_at "ko")
  | ((with_reducible apply ev_sliceL); walk_at "kd"; walk_at "ko"; walk_at "ko")
  | ((with_reducible apply ev_revL); walk_at "kd"))
local macro_rules | `(tactic| walk_at "ko") => `(tactic| first | with_reducible exact op_no | ((with_reducible apply op_so); walk_at "kd"))

section
variable {P : Program} {w : World} {K : PySem.W.Frag} {mg : Str → Option Value} {base : Heap} {C : Addr}

/-- b and one letter more -/
def extD (b : List Int) : Dv → Dv
  | .int a => wd (b ++ [a])
  | d => d
theorem rng_ext (b : List Int) (lo : Int) (n : Nat) : (rngD lo n).map (extD b) = ((KM.lets lo n).map fun a => b ++ [a]).map wd := by
  unfold rngD KM.lets
  rw [List.map_map, List.map_map, List.map_map]
  rfl
theorem ext_take {ls : List Int} {l : List (List Int)} {j : Nat} {b : List Int} (h : l[j]? = some b) : KM.ext ls (l.take (j + 1)) = KM.ext ls (l.take j) ++ ls.map fun a => b ++ [a] := by
  rw [List.take_add_one, h, KM.ext_append]
  congr 1
  show (ls.map fun a => b ++ [a]) ++ [] = _
  rw [List.append_nil]
theorem noOwn_of8b {a b c : Dv} {z3 z5 z6 z7 : Sl} {ds : List Dv} (h3 : z3.isOwn = false) (h5 : z5.isOwn = false) (h6 : z6.isOwn = false) (h7 : z7.isOwn = false) : noOwn [.val a, .val b, .val c, z3, .own ds, z5, z6, z7] 4 = true := by
  unfold noOwn
  show (!(false || (false || (false || (z3.isOwn || (false || (z5.isOwn || (z6.isOwn || (z7.isOwn || false))))))))) = true
  rw [h3, h5, h6, h7]
  rfl
theorem noOwn_of8c {a b c : Dv} {z3 z4 z5 z7 : Sl} {ds : List Dv} (h3 : z3.isOwn = false) (h4 : z4.isOwn = false) (h5 : z5.isOwn = false) (h7 : z7.isOwn = false) : noOwn [.val a, .val b, .val c, z3, z4, z5, .own ds, z7] 6 = true := by
  unfold noOwn
  show (!(false || (false || (false || (z3.isOwn || (z4.isOwn || (z5.isOwn || (false || (z7.isOwn || false))))))))) = true
  rw [h3, h4, h5, h7]
  rfl
theorem wds_get {l : List (List Int)} {j : Nat} {d : Dv} (h : (l.map wd)[j]? = some d) : ∃ b, l[j]? = some b ∧ d = wd b := by
  rw [List.getElem?_map] at h
  cases e : l[j]? with
  | none => rw [e] at h; cases h
  | some p => rw [e] at h; exact ⟨p, rfl, (Option.some.inj h).symm⟩
theorem begun_small {p k : Nat} (hp : p = 2 ∨ p = 3) (hk : k ≤ 5) : (KM.begun p k).length ≤ 1024 := by
  rw [KM.begun_len]
  have h1 : (p + 1) ^ k ≤ 4 ^ k := Nat.pow_le_pow_left (by omega) k
  have h2 : 4 ^ k ≤ 4 ^ 5 := Nat.pow_le_pow_right (by decide) hk
  have h3 : 4 ^ 5 = 1024 := rfl
  omega
theorem ext_take_len {ls : List Int} {l : List (List Int)} {j : Nat} : (KM.ext ls (l.take j)).length ≤ l.length * ls.length := by
  rw [KM.ext_len, List.length_take]
  exact Nat.mul_le_mul_right _ (Nat.min_le_right _ _)
abbrev s_law_wd_all : Stmt := topS 54
theorem sc_law_wd_all : FnScope ["_law_prime", "_law_length", "_law_found", "_law_turn", "_law_longer", "_law_begun", "_law_words", "_law_letter_here"] ["_law_prime", "_law_length"] (defScope s_law_wd_all) := ⟨rfl, rfl, rfl, by decide +kernel, rfl, by decide +kernel, by decide +kernel⟩
theorem d_wd_all (B : Bl mg) (F : Here K mg "_law_wd_all" s_law_wd_all ["_law_prime", "_law_length"]) :
    Def P w K mg base 1 "_law_wd_all" ["_law_prime", "_law_length"] (spF ⟨K, C⟩ (fun a : Nat × Nat => [.int a.1, .int a.2]) (fun a => (a.1 = 2 ∨ a.1 = 3) ∧ a.2 ≤ 6) (fun a d => ∃ m : List (List Int), m.Perm (KM.allM a.1 a.2) ∧ d = wds m)) := by
  refine def_ok F sc_law_wd_all (fun _ => rfl) (fun f cdv A outer s H E hr => ⟨_, (have nd := sc_law_wd_all.nd; (pss_cons (ps_if (pt_cmpR (op_eq) (pv 1) pe_int (nomark _))
    (pss_one (ps_ret (pe_lst (pa_cons (pe_tup pa_nil) pa_nil))))
    pss_nil)
    (pss_cons (ps_set (i := 2) nd rfl (.inl rfl) (pe_lst (pa_cons (pe_tup pa_nil) pa_nil)))
    (pss_cons (ps_for PassesOwn.never rfl (pi_range1 (by rfl) B.b_range (pa_cons (pe_op op_sub (pv 1) pe_int) pa_nil)) (pg_name (i := 3) nd rfl (Or.inl rfl))
    (pss_cons (ps_set (i := 4) nd rfl (.inl rfl) (pe_lst pa_nil))
    (pss_cons (ps_for PassesOwn.never rfl (pi_list (pe_callTy call_list_of (by rfl) B.b_list (by decide +kernel) (pa_cons (pv 2) pa_nil))) (pg_name (i := 5) nd rfl (Or.inr rfl))
    (pss_one (ps_expr (pe_bm PySem.F.plainAttrs_list PySem.F.slot_list_extend PySem.F.type_list_extend mt_extend (pv 4) (pa_cons (pe_lc (own := [("_law_letter_here", 7)]) (g := gName 7) (tt := tYes) rfl nd (pi_range2 (by rfl) B.b_range (pa_cons (pe_un un_neg pe_int) (pa_cons (pv 0) pa_nil))) (blkOk_by (own := [("_law_letter_here", 7)]) (N := ["_law_prime", "_law_length", "_law_found", "_law_turn", "_law_longer", "_law_begun", "_law_words", "_law_letter_here"]) (sc := defScope s_law_wd_all) (by decide +kernel)) (fun _ _ _ _ _ => pg_name (i := 7) nd rfl (Or.inl rfl)) (fun _ _ _ _ _ => pts_nil) (fun _ _ _ _ _ => (pe_op (op_catAX (K := K) rfl) (pv 5) (pe_tup (pa_cons (pv 7) pa_nil))))) pa_nil)))))
    (pss_one (ps_set (i := 2) nd rfl (.inl rfl) (pv 4))))))
    (pss_cons (ps_set (i := 6) nd rfl (.inl rfl) (pe_lst pa_nil))
    (pss_cons (ps_for PassesOwn.never rfl (pi_list (pv 2)) (pg_name (i := 5) nd rfl (Or.inr rfl))
    (pss_one (ps_expr (pe_bm PySem.F.plainAttrs_list PySem.F.slot_list_extend PySem.F.type_list_extend mt_extend (pv 6) (pa_cons (pe_lc (own := [("_law_letter_here", 7)]) (g := gName 7) (tt := tYes) rfl nd (pi_range2 (by rfl) B.b_range (pa_cons pe_int (pa_cons (pv 0) pa_nil))) (blkOk_by (own := [("_law_letter_here", 7)]) (N := ["_law_prime", "_law_length", "_law_found", "_law_turn", "_law_longer", "_law_begun", "_law_words", "_law_letter_here"]) (sc := defScope s_law_wd_all) (by decide +kernel)) (fun _ _ _ _ _ => pg_name (i := 7) nd rfl (Or.inl rfl)) (fun _ _ _ _ _ => pts_nil) (fun _ _ _ _ _ => (pe_op (op_catAX (K := K) rfl) (pv 5) (pe_tup (pa_cons (pv 7) pa_nil))))) pa_nil)))))
    (pss_one (ps_ret (pe_callB cr_sortedW (by rfl) B.b_sorted (by decide +kernel) (pa_cons (pe_op op_cat (pv 6) (pe_ifExp (pt_cmpR (op_eq) (pv 1) pe_int (nomark _)) (pe_lst (pa_cons (pe_tup (pa_cons (pe_un un_neg pe_int) pa_nil)) pa_nil)) (pe_lst pa_nil))) pa_nil)))))))))), fun Ho a hu => ?_⟩)
  obtain ⟨p, n⟩ := a
  obtain ⟨hp, hn⟩ := hu
  dsimp only [cxK] at hp hn ⊢
  show Sx _ _ [.val (.int p), .val (.int n), .non, .non, .non, .non, .non, .non] _ _
  refine sq_if (k := decide ((n : Int) = 0)) (et_test (ev_op (ev_var rfl) ev_int rv_eqI)) (fun hk => ?_) (fun hk => ?_)
  · have h0 : n = 0 := by
      have := of_decide_eq_true hk
      omega
    subst h0
    exact sq_ret (d := wds [[]]) (ev_eq (ev_lst (ea_cons (ev_tup ea_nil (by simp)) ea_nil) (by simp)) rfl) ⟨[[]], .refl _, rfl⟩
  · obtain ⟨k, rfl⟩ : ∃ k, n = k + 1 := ⟨n - 1, by
      have := of_decide_eq_false hk
      omega⟩
    refine sx_nextS (sq_asg (d := wds [[]]) (ev_eq (ev_lst (ea_cons (ev_tup ea_nil (by simp)) ea_nil) (by simp)) rfl) ?_)
    have hr1 : (((k + 1 : Nat) : Int) - 1).toNat = k := by omega
    refine sq_for [3] (Py := fun ys => ys = rngD 0 (((k + 1 : Nat) : Int) - 1).toNat) (iv_rng1 (ea_cons (ev_op (ev_var rfl) ev_int rv_int) ea_nil) (by omega) (by omega)) (fun _ i δ => ∃ z3 z4 z5 : Sl, z3.isOwn = false ∧ z4.isOwn = false ∧ z5.isOwn = false ∧ δ = [.val (.int p), .val (.int (k + 1 : Nat)), .val (wds (KM.begun p i)), z3, z4, z5, .non, .non]) (fun _ _ => ⟨.non, .non, .non, rfl, rfl, rfl, rfl⟩) ?_ ?_
    · rintro ys i d δ' rfl hd ⟨z3, z4, z5, h3, h4, h5, rfl⟩
      obtain ⟨hi, rfl⟩ := rngD_get hd
      rw [hr1] at hi
      have hbl := begun_small (k := i) hp (by omega)
      have hbs := KM.begun_size p i
      have hnx : KM.begun p (i + 1) = KM.ext (KM.lets (-1) (p + 1)) (KM.begun p i) := rfl
      rw [hnx]
      have hll : (KM.lets (-1) (p + 1)).length = p + 1 := KM.lets_len _ _
      generalize KM.begun p i = bg at hbl hbs
      refine ⟨_, tg_name, ?_⟩
      refine sq_own (i := 4) (ds := []) ea_nil (by decide) (noOwn_of8b (ds := []) rfl h5 rfl rfl) ?_
      refine sq_for [5] (Py := fun ys => ys = bg.map wd) (iv_list (ev_cb (ea_cons (ev_var (d := wds bg) rfl) ea_nil) cv_list_l)) (fun _ j δ => ∃ z5 : Sl, z5.isOwn = false ∧ δ = [.val (.int p), .val (.int (k + 1 : Nat)), .val (wds bg), .val (.int (0 + (i : Nat))), .own ((KM.ext (KM.lets (-1) (p + 1)) (bg.take j)).map wd), z5, .non, .non]) (fun _ _ => ⟨z5, h5, rfl⟩) ?_ ?_
      · rintro ys j d δ' rfl hd ⟨z5, h5, rfl⟩
        obtain ⟨b, hb, rfl⟩ := wds_get hd
        have hbi := hbs b (List.mem_of_getElem? hb)
        refine ⟨_, tg_name, ?_⟩
        have e1 : ((p : Int) - -1).toNat = p + 1 := by omega
        refine sx_ext (i := 4) (es := ((KM.lets (-1) (p + 1)).map fun a => b ++ [a]).map wd) rfl rfl (noOwn_of8b rfl rfl rfl rfl) ?_ (ev_eq (ev_lcA (js := [7]) (extD b) (iv_rng2 (ea_cons (ev_neg ev_int) (ea_cons (ev_var rfl) ea_nil)) (by omega) (by omega) (by omega) (by omega)) ?_ (by simp) fun d hd => ?_) ?_) ?_
        · have h2 := ext_take_len (ls := KM.lets (-1) (p + 1)) (l := bg) (j := j)
          have h3 : bg.length * (KM.lets (-1) (p + 1)).length ≤ 1024 * 4 := Nat.mul_le_mul hbl (by omega)
          rw [List.length_map, List.length_map, List.length_map, hll]
          omega
        · rw [rngD_len]
          omega
        · obtain ⟨t, ht⟩ := List.getElem?_of_mem hd
          obtain ⟨_, rfl⟩ := rngD_get ht
          exact ⟨_, tg_name, ev_op (ev_var (d := wd b) rfl) (ev_eq (e := wd [_]) (ev_tup (ea_cons (ev_var rfl) ea_nil) (by simp)) rfl) (rv_catW (by simp; omega))⟩
        · rw [e1, rng_ext]
        · refine ⟨.val (wd b), rfl, ?_⟩
          rw [ext_take hb, List.map_append]
          rfl
      · rintro ys δ' rfl ⟨z5, h5, rfl⟩
        rw [List.length_map, List.take_length]
        refine sx_freeze (i := 4) rfl (noOwn_of8b rfl h5 rfl rfl) (sx_asg (ev_var rfl) ?_)
        exact ⟨_, _, z5, rfl, rfl, h5, rfl⟩
    · rintro ys δ' rfl ⟨z3, z4, z5, h3, h4, h5, rfl⟩
      rw [rngD_len, hr1]
      have hbl := begun_small (k := k) hp (by omega)
      have hbs := KM.begun_size p k
      have hall : KM.allM p (k + 1) = KM.ext (KM.lets 1 (p - 1)) (KM.begun p k) ++ if k = 0 then [[-1]] else [] := rfl
      rw [hall]
      have hw : ∀ u ∈ KM.ext (KM.lets 1 (p - 1)) (KM.begun p k) ++ (if k = 0 then [[-1]] else []), u ≠ [] := fun u hu => by
        have := (KM.all_word (p := p) (n := k + 1) hu).2
        intro e
        subst e
        simp at this
      have hll : (KM.lets 1 (p - 1)).length = p - 1 := KM.lets_len _ _
      generalize KM.begun p k = bg at hbl hbs hw
      refine sq_own (i := 6) (ds := []) ea_nil (by decide) (noOwn_of8c (ds := []) h3 h4 h5 rfl) ?_
      refine sq_for [5] (Py := fun ys => ys = bg.map wd) (iv_list (ev_var (d := wds bg) rfl)) (fun _ j δ => ∃ z5 : Sl, z5.isOwn = false ∧ δ = [.val (.int p), .val (.int (k + 1 : Nat)), .val (wds bg), z3, z4, z5, .own ((KM.ext (KM.lets 1 (p - 1)) (bg.take j)).map wd), .non]) (fun _ _ => ⟨z5, h5, rfl⟩) ?_ ?_
      · rintro ys j d δ' rfl hd ⟨z5, h5, rfl⟩
        obtain ⟨b, hb, rfl⟩ := wds_get hd
        have hbi := hbs b (List.mem_of_getElem? hb)
        refine ⟨_, tg_name, ?_⟩
        have e1 : ((p : Int) - 1).toNat = p - 1 := by omega
        refine sx_ext (i := 6) (es := ((KM.lets 1 (p - 1)).map fun a => b ++ [a]).map wd) rfl rfl (noOwn_of8c h3 h4 rfl rfl) ?_ (ev_eq (ev_lcA (js := [7]) (extD b) (iv_rng2 (ea_cons ev_int (ea_cons (ev_var rfl) ea_nil)) (by omega) (by omega) (by omega) (by omega)) ?_ (by simp) fun d hd => ?_) ?_) ?_
        · have h2 := ext_take_len (ls := KM.lets 1 (p - 1)) (l := bg) (j := j)
          have h3 : bg.length * (KM.lets 1 (p - 1)).length ≤ 1024 * 4 := Nat.mul_le_mul hbl (by omega)
          rw [List.length_map, List.length_map, List.length_map, hll]
          omega
        · rw [rngD_len]
          omega
        · obtain ⟨t, ht⟩ := List.getElem?_of_mem hd
          obtain ⟨_, rfl⟩ := rngD_get ht
          exact ⟨_, tg_name, ev_op (ev_var (d := wd b) rfl) (ev_eq (e := wd [_]) (ev_tup (ea_cons (ev_var rfl) ea_nil) (by simp)) rfl) (rv_catW (by simp; omega))⟩
        · rw [e1, rng_ext]
        · refine ⟨.val (wd b), rfl, ?_⟩
          rw [ext_take hb, List.map_append]
          rfl
      · rintro ys δ' rfl ⟨z5, h5, rfl⟩
        rw [List.length_map, List.take_length]
        refine sx_freeze (i := 6) rfl (noOwn_of8c h3 h4 h5 rfl) (sx_retP (P := fun d => ∃ m : List (List Int), m.Perm (KM.ext (KM.lets 1 (p - 1)) bg ++ if k = 0 then [[-1]] else []) ∧ d = wds m) ?_ fun d h => h)
        refine ep_cb (Pq := fun ds => ds = [wds (KM.ext (KM.lets 1 (p - 1)) bg ++ if k = 0 then [[-1]] else [])]) (ea_cons (ev_eq (ev_op (a := wds (KM.ext (KM.lets 1 (p - 1)) bg)) (b := wds (if k = 0 then [[-1]] else [])) (ev_var rfl) (ep_if (Pt := fun b => b = decide (((k + 1 : Nat) : Int) = 1)) (et_test (ev_op (ev_var rfl) ev_int rv_eqI)) (fun hk => ?_) (fun hk => ?_)) (rv_cat ?_)) ?_) ea_nil) fun ds e => by subst e; exact cp_sortedW hw
        · rw [if_pos (by have := of_decide_eq_true (show true = _ from hk).symm; omega)]
          exact ev_eq (ev_lst (ea_cons (ev_tup (ea_cons (ev_neg ev_int) ea_nil) (by simp)) ea_nil) (by simp)) rfl
        · rw [if_neg (by have := of_decide_eq_false (show false = _ from hk).symm; omega)]
          exact ev_eq (ev_lst ea_nil (by simp)) rfl
        · have h2 := ext_take_len (ls := KM.lets 1 (p - 1)) (l := bg) (j := bg.length)
          have h3 : bg.length * (KM.lets 1 (p - 1)).length ≤ 1024 * 4 := Nat.mul_le_mul hbl (by omega)
          rw [List.take_length] at h2
          rw [List.length_map, List.length_map]
          split
          · simp
            omega
          · simp
            omega
        · show Dv.lst (_ ++ _) = Dv.lst _
          rw [List.map_append]
end
end KD
set_option Elab.async false
set_option linter.all false
set_option maxRecDepth 100000
set_option maxHeartbeats 4000000
namespace KD
open PySem PySem.Spec PyProof.Rows L2
open Evl (Ex Ex.refl Ex.trans Ex.new Ex.mut ex_l ex_t fresh_back)

local macro_rules | `(tactic| walk_at "kr") => `(tactic| first
  | with_reducible exact rv_int | with_reducible exact rv_bool | with_reducible exact rv_eqI | with_reducible exact rv_neI | with_reducible exact rv_eqW | with_reducible exact rv_neW | with_reducible exact rv_isN | with_reducible exact rv_notN
  | with_reducible exact rv_eqI' | with_reducible exact rv_neI' | with_reducible exact rv_eqL | with_reducible exact rv_neL | with_reducible exact rv_ltW | with_reducible exact rv_inI | with_reducible exact rv_niI | with_reducible exact rv_inT | with_reducible exact rv_niT | with_reducible exact rv_eqB | with_reducible exact rv_neB | with_reducible exact rv_eqS | with_reducible exact rv_neS)
local macro_rules | `(tactic| walk_at "kd") => `(tactic| first
  | ((with_reducible apply ev_var); rfl)
  | with_reducible exact ev_int | with_reducible exact ev_bl | with_reducible exact ev_non | with_reducible exact ev_str
  | ((with_reducible apply ev_neg); walk_at "kd")
  | ((with_reducible apply ev_op); walk_at "kd"; walk_at "kd"; walk_at "kr")
  | ((with_reducible apply et_test); walk_at "kd")
  | ((with_reducible apply et_B); walk_at "kd")
  | ((with_reducible apply et_not); walk_at "kd")
  | ((with_reducible apply ev_notV); walk_at "kd")
  | ((with_reducible apply ev_cb); walk_at "kd"; first | with_reducible exact cv_len_w | with_reducible exact cv_len_il | with_reducible exact cv_len_wds | with_reducible exact cv_len_t | with_reducible exact cv_len_l | with_reducible exact cv_tuple_l | with_reducible exact cv_tuple_t | with_reducible exact cv_list_l | with_reducible exact cv_list_t | with_reducible exact cv_len_s | with_reducible exact cv_abs | with_reducible exact cv_int | with_reducible exact cv_intb | with_reducible exact cv_max2 | with_reducible exact cv_min2 | with_reducible exact cv_all)
  | with_reducible exact ea_nil
  | ((with_reducible apply ea_cons); walk_at "kd"; walk_at "kd")
  | ((with_reducible apply ev_tup); walk_at "kd"; (first | decide | (simp; done) | (simp; omega)))
  | ((with_reducible apply ev_lst); walk_at "kd"; (first | decide | (simp; done) | (simp; omega)))
  | ((with_reducible apply ev_sliceW); walk_at "kd"; walk_at "ko"; walk_at "ko")
  | ((with_reducible apply ev_sliceI); walk_at "kd"; walk_at "ko"; walk_at "ko")
  | ((with_reducible apply ev_sliceT); walk_at "kd"; walk_at "ko"; walk_at "ko")
  | ((with_reducible apply ev_sliceL); walk_at "kd"; walk_at "ko"; walk_at "ko")
  | ((with_reducible apply ev_revL); walk_at "kd"))
local macro_rules | `(tactic| walk_at "ko") => `(tactic| first | with_reducible exact op_no | ((with_reducible apply op_so); walk_at "kd"))

section
variable {P : Program} {w : World} {K : PySem.W.Frag} {mg : Str → Option Value} {base : Heap} {C : Addr}

theorem ip_list {W : Wc} {δ : List Sl} {te : TE} {P : List Dv → Prop} (h : EP W te δ fun d => ∃ l, d = .lst l ∧ P l) : IP W (iList W.c.K te) δ P := fun σ Hs H s R q => h.run s fun v d Hs1 H1 st1 s1 pa ra => by
  obtain ⟨l, rfl, pl⟩ := pa
  cases ra with
  | lst h r => exact ⟨_, rfl, ⟨_, .inl (.inl (s1.sub _ _ h))⟩, q _ l Hs1 H1 st1 pl (wk_at walk_list (fun H' e => .inl (.inl (e _ _ h))) r)⟩
/-- the words of the lengths below i with these generators -/
def KM.sameBelow (p : Nat) (due : List Int) (i : Nat) : List (List Int) := (List.range i).flatMap fun n => (KM.allM p n).filter fun u => decide (KM.gensM u = due)
def KM.sameOf (p : Nat) (u : List Int) : List (List Int) := KM.sameBelow p (KM.gensM u) (u.length + 2)
/-- the least of the words, none of none -/
def LeastO (l : List (List Int)) : Option (List Int) → Prop
  | none => l = []
  | some m => LeastIn m l
theorem LeastIn.uniq {a b : List Int} {l m : List (List Int)} (h : ∀ u, u ∈ l ↔ u ∈ m) (ha : LeastIn a l) (hb : LeastIn b m) : a = b := by
  rcases lex_tri a b with h1 | h1 | h1
  · exact absurd (hb.2 a ((h a).mp ha.1)) (by rw [h1]; decide)
  · exact h1
  · exact absurd (ha.2 b ((h b).mpr hb.1)) (by rw [h1]; decide)
theorem exists_least : ∀ (l : List (List Int)), l ≠ [] → ∃ m, LeastIn m l
  | [], h => absurd rfl h
  | x :: l, _ => ⟨_, least_foldl l x⟩
def bestO (m : List Int) : Option (List Int) → Option (List Int)
  | none => some m
  | some x => if HT.lexLt m x = true then some m else some x
theorem LeastO.step {l a b : List (List Int)} {m : List Int} {o : Option (List Int)} (ho : LeastO l o) (hb : LeastIn m a) (hab : ∀ u, u ∈ a ↔ u ∈ b) :
    LeastO (l ++ b) (bestO m o) := by
  have hmb := (hab m).mp hb.1
  have hle : ∀ u ∈ b, HT.lexLt u m = false := fun u hu => hb.2 u ((hab u).mpr hu)
  cases o with
  | none =>
    have e : l = [] := ho
    subst e
    exact ⟨hmb, hle⟩
  | some x =>
    have hx : LeastIn x l := ho
    by_cases h : HT.lexLt m x = true
    · have e : bestO m (some x) = some m := if_pos h
      rw [e]
      refine ⟨List.mem_append_right _ hmb, fun u hu => ?_⟩
      rcases List.mem_append.mp hu with hu | hu
      · by_cases hum : HT.lexLt u m = true
        · exact absurd (hx.2 u hu) (by rw [lex_tr hum h]; decide)
        · exact Bool.not_eq_true _ ▸ hum
      · exact hle u hu
    · have e : bestO m (some x) = some x := if_neg h
      rw [e]
      refine ⟨List.mem_append_left _ hx.1, fun u hu => ?_⟩
      rcases List.mem_append.mp hu with hu | hu
      · exact hx.2 u hu
      · by_cases hux : HT.lexLt u x = true
        · rcases lex_tri u m with h1 | h1 | h1
          · exact absurd (hle u hu) (by rw [h1]; decide)
          · subst h1
            exact absurd hux h
          · exact absurd (lex_tr h1 hux) h
        · exact Bool.not_eq_true _ ▸ hux
/-- has the due generators -/
def dueD (due : List Int) : Dv → Bool
  | .tup l => decide (KM.gensM (l.map fun d => match d with | .int a => a | _ => 0) = due)
  | _ => false
theorem dueD_wd (due w : List Int) : dueD due (wd w) = decide (KM.gensM w = due) := by
  show decide (KM.gensM ((w.map Dv.int).map _) = due) = _
  rw [List.map_map]
  congr 2
  have : ((fun d => match d with | .int a => a | _ => 0) ∘ Dv.int : Int → Int) = id := rfl
  rw [this, List.map_id]
theorem filter_wd (due : List Int) : ∀ l : List (List Int), (l.map wd).filter (dueD due) = (l.filter fun u => decide (KM.gensM u = due)).map wd
  | [] => rfl
  | w :: l => by
    rw [List.map_cons, List.filter_cons, List.filter_cons, dueD_wd]
    split
    · rw [List.map_cons, filter_wd due l]
    · exact filter_wd due l
theorem paired_same : ∀ {xs l : List Dv}, Paired (fun d z => z = d) xs l → l = xs
  | _, _, .nil => rfl
  | _, _, .cons h r => by rw [h, paired_same r]
theorem all_small {p n : Nat} (hp : p = 2 ∨ p = 3) (hn : n ≤ 6) : (KM.allM p n).length ≤ 100000 := by
  cases n with
  | zero => exact Nat.le_of_ble_eq_true rfl
  | succ k =>
    have hbl := begun_small (k := k) hp (by omega)
    have e : KM.allM p (k + 1) = KM.ext (KM.lets 1 (p - 1)) (KM.begun p k) ++ if k = 0 then [[-1]] else [] := rfl
    have hll : (KM.lets 1 (p - 1)).length = p - 1 := KM.lets_len _ _
    have h3 : (KM.begun p k).length * (KM.lets 1 (p - 1)).length ≤ 1024 * 4 := Nat.mul_le_mul hbl (by omega)
    rw [e, List.length_append, KM.ext_len]
    split
    · simp
      omega
    · simp
      omega
abbrev s_law_least : Stmt := topS 58
theorem sc_law_least : FnScope ["_law_prime", "_law_word", "_law_due", "_law_found", "_law_length", "_law_some", "_law_one"] ["_law_prime", "_law_word"] (defScope s_law_least) := ⟨rfl, rfl, rfl, by decide +kernel, rfl, by decide +kernel, by decide +kernel⟩
theorem d_least (B : Bl mg) (F : Here K mg "_law_least" s_law_least ["_law_prime", "_law_word"])
    (D_law_generators : Def P w K mg base 4 "_law_generators" ["_law_word"] (spF ⟨K, C⟩ (fun u : List Int => [wd u]) (fun u => KM.Valid u ∧ u.length ≤ 100) (fun u d => d = wd (KM.gensM u))))
    (D_law_wd_all : Def P w K mg base 1 "_law_wd_all" ["_law_prime", "_law_length"] (spF ⟨K, C⟩ (fun a : Nat × Nat => [.int a.1, .int a.2]) (fun a => (a.1 = 2 ∨ a.1 = 3) ∧ a.2 ≤ 6) (fun a d => ∃ m : List (List Int), m.Perm (KM.allM a.1 a.2) ∧ d = wds m))) :
    Def P w K mg base 5 "_law_least" ["_law_prime", "_law_word"] (spF ⟨K, C⟩ (fun a : Nat × List Int => [.int a.1, wd a.2]) (fun a => (a.1 = 2 ∨ a.1 = 3) ∧ KM.Valid a.2 ∧ a.2.length ≤ 5) (fun a d => ∃ o, LeastO (KM.sameOf a.1 a.2) o ∧ d = ow o)) := by
  refine def_ok F sc_law_least (fun _ => rfl) (fun f cdv A outer s H E hr => ⟨_, (have nd := sc_law_least.nd; (pss_cons (ps_asg (pe_tup (pa_cons (pe_def D_law_generators (hr.mono (by decide)) (by rfl) (pa_cons (pv 1) pa_nil)) (pa_cons pe_non pa_nil))) (pg_tup (by rfl) (pgs_cons (pg_name (i := 2) nd rfl (.inr rfl)) (pgs_cons (pg_name (i := 3) nd rfl (.inl rfl)) pgs_nil))))
    (pss_cons (ps_for PassesOwn.never rfl (pi_range1 (by rfl) B.b_range (pa_cons (pe_op op_add (pe_callB call_len_seq (by rfl) B.b_len (by decide +kernel) (pa_cons (pv 1) pa_nil)) pe_int) pa_nil)) (pg_name (i := 4) nd rfl (Or.inl rfl))
    (pss_cons (ps_setLc (i := 5) (own := [("_law_one", 6)]) (g := gName 6) (tt := _) rfl nd rfl rfl (sw_true rfl rfl rfl (by decide +kernel)) (pi_list (pe_def D_law_wd_all (hr.mono (by decide)) (by rfl) (pa_cons (pv 0) (pa_cons (pv 4) pa_nil)))) (blkOk_by (own := [("_law_one", 6)]) (N := ["_law_prime", "_law_word", "_law_due", "_law_found", "_law_length", "_law_some", "_law_one"]) (sc := defScope s_law_least) (by decide +kernel)) (fun _ _ _ _ _ => pg_name (i := 6) nd rfl (Or.inl rfl)) (fun _ _ _ _ _ => pts_one (pt_cmpR (op_eqDX (K := K) rfl (hu64 hr)) (pe_def D_law_generators (hr.mono (by decide)) (by rfl) (pa_cons (pv 6) pa_nil)) (pv 2) (nomark _))) (fun _ _ _ _ _ => (pv 6)))
    (pss_one (ps_if (PW.pt (pw_and (pt_cmpR (op_neD (hu64 hr)) (pv 5) (pe_lst pa_nil) (nomark _)) (pw_and1 (PW.pt (pw_or (pt_cmpR (op_isN) (pv 3) pe_non (nomark _)) (pw_or1 (pt_cmpR (op_ltT (hu0 hr)) (pe_callB (cr_minW rfl (hu64 hr)) (by rfl) B.b_min (by decide +kernel) (pa_cons (pv 5) pa_nil)) (pv 3) (nomark _))))))))
    (pss_one (ps_set (i := 3) nd rfl (.inl rfl) (pe_callB (cr_minW rfl (hu64 hr)) (by rfl) B.b_min (by decide +kernel) (pa_cons (pv 5) pa_nil))))
    pss_nil))))
    (pss_one (ps_ret (pv 3)))))), fun Ho a hu => ?_⟩)
  obtain ⟨p, u⟩ := a
  obtain ⟨hp, hv, hl⟩ := hu
  dsimp only [cxK] at hp hv hl ⊢
  show Sx _ _ [.val (.int p), .val (wd u), .non, .non, .non, .non, .non] _ _
  refine sq_asgG (d := .tup [wd (KM.gensM u), .non]) (ev_tup (ea_cons (ev_call u (ea_cons (ev_var rfl) ea_nil) ⟨hv, by omega⟩ fun d h => h) (ea_cons ev_non ea_nil)) (by simp)) tg_pair ?_
  have hso : KM.sameOf p u = KM.sameBelow p (KM.gensM u) (u.length + 2) := rfl
  rw [hso]
  generalize KM.gensM u = due
  have hr1 : ((u.length : Int) + 2).toNat = u.length + 2 := by omega
  refine sq_for [4] (Py := fun ys => ys = rngD 0 ((u.length : Int) + 2).toNat) (iv_rng1 (ea_cons (ev_op (ev_cb (ea_cons (ev_var rfl) ea_nil) cv_len_w) ev_int rv_int) ea_nil) (by omega) (by omega)) (fun _ i δ => ∃ (o : Option (List Int)) (z4 z5 : Sl), LeastO (KM.sameBelow p due i) o ∧ δ = [.val (.int p), .val (wd u), .val (wd due), .val (ow o), z4, z5, .non]) (fun _ _ => ⟨none, .non, .non, rfl, rfl⟩) ?_ ?_
  · rintro ys i d δ' rfl hd ⟨o, z4, z5, ho, rfl⟩
    obtain ⟨hi, rfl⟩ := rngD_get hd
    rw [hr1] at hi
    have hz : (0 + (i : Nat) : Int) = i := by omega
    rw [hz]
    have hsb : KM.sameBelow p due (i + 1) = KM.sameBelow p due i ++ (KM.allM p i).filter fun u => decide (KM.gensM u = due) := by
      unfold KM.sameBelow
      rw [List.range_succ, List.flatMap_append]
      congr 1
      show _ ++ [] = _
      rw [List.append_nil]
    refine ⟨_, tg_name, ?_⟩
    refine sq_asgP (P := fun d => ∃ l : List (List Int), (∀ v, v ∈ l ↔ v ∈ (KM.allM p i).filter fun u => decide (KM.gensM u = due)) ∧ d = wds l) ?_ ?_
    · refine EP.mono (ep_lc (js := [6]) (f := dueD due) (E := fun d z => z = d) (Py := fun ys => ∃ m : List (List Int), m.Perm (KM.allM p i) ∧ ys = m.map wd) (ip_list (ep_call (AP.mono (ea_cons (ev_var rfl) (ea_cons (ev_var rfl) ea_nil)) fun ds e => ⟨(p, i), e, ⟨hp, by dsimp only; omega⟩, fun d ⟨m, hm, e⟩ => ⟨m.map wd, e, m, hm, rfl⟩⟩))) ?_ (by simp) ?_) ?_
      · rintro ys ⟨m, hm, rfl⟩
        rw [List.length_map, hm.length_eq]
        exact all_small hp (by omega)
      · rintro ys ⟨m, hm, rfl⟩ d hd
        obtain ⟨w, hw, rfl⟩ := List.mem_map.mp hd
        obtain ⟨wv, wl⟩ := KM.all_word (hm.mem_iff.mp hw)
        refine ⟨_, tg_name, ?_, fun _ => ev_var (d := wd w) rfl⟩
        rw [dueD_wd]
        exact et_test (ev_op (ev_call w (ea_cons (ev_var rfl) ea_nil) ⟨wv, by omega⟩ fun d h => h) (ev_var rfl) rv_eqW)
      · rintro z ⟨ys, l, ⟨m, hm, rfl⟩, rfl, hpd⟩
        rw [paired_same hpd, filter_wd]
        refine ⟨_, fun v => ?_, rfl⟩
        rw [List.mem_filter, List.mem_filter, hm.mem_iff]
    · rintro d ⟨l, hm, rfl⟩
      have fin : ∀ {o' : Option (List Int)}, LeastO (KM.sameBelow p due (i + 1)) o' → ∃ (o : Option (List Int)) (z4 z5 : Sl), LeastO (KM.sameBelow p due (i + 1)) o ∧ ([.val (.int p), .val (wd u), .val (wd due), .val (ow o'), .val (.int i), .val (wds l), .non] : List Sl) = [.val (.int p), .val (wd u), .val (wd due), .val (ow o), z4, z5, .non] := fun h => ⟨_, _, _, h, rfl⟩
      have test : ∀ {δ : List Sl}, δ[5]? = some (.val (wds l)) → Et ⟨⟨K, C⟩, Ho, H⟩ (tTest (tOp (rNeD K) (tVar 5) (tLst tNil))) δ (!decide (l = [])) := fun h => et_test (ev_op (ev_var h) (ev_eq (e := wds []) (ev_lst ea_nil (by simp)) rfl) rv_neL)
      rcases l with _ | ⟨x, l⟩
      · refine sx_if (k := !decide (([] : List (List Int)) = []) && true) (et_and (test rfl) fun hk => absurd hk (by decide)) (fun hk => absurd hk (by decide)) (fun _ => sx_next (fin ?_))
        have en : ((KM.allM p i).filter fun u => decide (KM.gensM u = due)) = [] := List.eq_nil_iff_forall_not_mem.mpr fun v hv => nomatch (hm v).mpr hv
        rw [hsb, en, List.append_nil]
        exact ho
      · obtain ⟨m, hml⟩ := exists_least (x :: l) (by simp)
        have hst := ho.step hml hm
        rw [← hsb] at hst
        have mins : ∀ {δ : List Sl}, δ[5]? = some (.val (wds (x :: l))) → Ev ⟨⟨K, C⟩, Ho, H⟩ (tCB (rMinW K) (tCons (tVar 5) tNil)) δ (wd m) := fun h => EP.mono (ep_cb (Pq := fun ds => ds = [wds (x :: l)]) (ea_cons (ev_var h) ea_nil) fun ds e => by subst e; exact cp_minW) fun d h => by
          obtain ⟨m', e, h'⟩ := h
          rw [e, LeastIn.uniq (fun _ => Iff.rfl) h' hml]
        cases o with
        | none =>
          refine sx_if (k := !decide ((x :: l) = []) && (true || true)) (et_and (test rfl) fun _ => et_or (et_test (ev_op (ev_var (d := .non) rfl) ev_non rv_isN)) fun hk => absurd hk (by decide)) (fun _ => sx_asg (mins rfl) (fin hst)) (fun hk => absurd hk (by simp))
        | some y =>
          refine sx_if (k := !decide ((x :: l) = []) && (false || HT.lexLt m y)) (et_and (test rfl) fun _ => et_or (et_test (ev_op (ev_var (d := wd y) rfl) ev_non rv_isN)) fun _ => et_test (ev_op (mins rfl) (ev_var (d := wd y) rfl) rv_ltW)) (fun hk => sx_asg (mins rfl) ?_) (fun hk => sx_next ?_)
          · have hk' : HT.lexLt m y = true := by simpa using hk
            have e : bestO m (some y) = some m := if_pos hk'
            rw [e] at hst
            exact fin hst
          · have hk' : ¬ HT.lexLt m y = true := by simpa using hk
            have e : bestO m (some y) = some y := if_neg hk'
            rw [e] at hst
            exact fin hst
  · rintro ys δ' rfl ⟨o, z4, z5, ho, rfl⟩
    rw [rngD_len, hr1] at ho
    exact sx_ret (ev_var rfl) ⟨o, ho, rfl⟩
end
end KD
set_option Elab.async false
set_option linter.all false
set_option maxRecDepth 100000
set_option maxHeartbeats 4000000
namespace KD
open PySem PySem.Spec PyProof.Rows L2
open Evl (Ex Ex.refl Ex.trans Ex.new Ex.mut ex_l ex_t fresh_back)

local macro_rules | `(tactic| walk_at "kr") => `(tactic| first
  | with_reducible exact rv_int | with_reducible exact rv_bool | with_reducible exact rv_eqI | with_reducible exact rv_neI | with_reducible exact rv_eqW | with_reducible exact rv_neW | with_reducible exact rv_isN | with_reducible exact rv_notN
  | with_reducible exact rv_eqI' | with_reducible exact rv_neI' | with_reducible exact rv_eqL | with_reducible exact rv_neL | with_reducible exact rv_ltW | with_reducible exact rv_inI | with_reducible exact rv_niI | with_reducible exact rv_inT | with_reducible exact rv_niT | with_reducible exact rv_eqB | with_reducible exact rv_neB | with_reducible exact rv_eqS | with_reducible exact rv_neS)
local macro_rules | `(tactic| walk_at "kd") => `(tactic| first
  | ((with_reducible apply ev_var); rfl)
  | with_reducible exact ev_int | with_reducible exact ev_bl | with_reducible exact ev_non | with_reducible exact ev_str
  | ((with_reducible apply ev_neg); walk_at "kd")
  | ((with_reducible apply ev_op); walk_at "kd"; walk_at "kd"; walk_at "kr")
  | ((with_reducible apply et_test); walk_at "kd")
  | ((with_reducible apply et_B); walk_at "kd")
  | ((with_reducible apply et_not); walk_at "kd")
  | ((with_reducible apply ev_notV); walk_at "kd")
  | ((with_reducible apply ev_cb); walk_at "kd"; first | with_reducible exact cv_len_w | with_reducible exact cv_len_il | with_reducible exact cv_len_wds | with_reducible exact cv_len_t | with_reducible exact cv_len_l | with_reducible exact cv_tuple_l | with_reducible exact cv_tuple_t | with_reducible exact cv_list_l | with_reducible exact cv_list_t | with_reducible exact cv_len_s | with_reducible exact cv_abs | with_reducible exact cv_int | with_reducible exact cv_intb | with_reducible exact cv_max2 | with_reducible exact cv_min2 | with_reducible exact cv_all)
  | with_reducible exact ea_nil
  | ((with_reducible apply ea_cons); walk_at "kd"; walk_at "kd")
  | ((with_reducible apply ev_tup); walk_at "kd"; (first | decide | (simp; done) | (simp; omega)))
  | ((with_reducible apply ev_lst); walk_at "kd"; (first | decide | (simp; done) | (simp; omega)))
  | ((with_reducible apply ev_sliceW); walk_at "kd"; walk_at "ko"; walk_at "ko")
  | ((with_reducible apply ev_sliceI); walk_at "kd"; walk_at "ko"; walk_at "ko")
  | ((with_reducible apply ev_sliceT); walk_at "kd"; walk_at "ko"; walk_at "ko")
  | ((with_reducible apply ev_sliceL); walk_at "kd"; walk_at "ko"; walk_at "ko")
  | ((with_reducible apply ev_revL); walk_at "kd"))
local macro_rules | `(tactic| walk_at "ko") => `(tactic| first | with_reducible exact op_no | ((with_reducible apply op_so); walk_at "kd"))

section
variable {P : Program} {w : World} {K : PySem.W.Frag} {mg : Str → Option Value} {base : Heap} {C : Addr}

/-! ### ints that are not known -/
section
variable {W : Wc} {δ : List Sl} {te ta tb : TE} {P Pa Pb : Int → Prop}
def EI (W : Wc) (te : TE) (δ : List Sl) (P : Int → Prop) : Prop := EP W te δ fun d => ∃ i : Int, d = .int i ∧ P i
theorem ei_of {i : Int} (h : Ev W te δ (.int i)) (p : P i) : EI W te δ P := EP.mono h fun d e => ⟨i, e, p⟩
theorem EI.mono {Q : Int → Prop} (h : EI W te δ P) (k : ∀ i, P i → Q i) : EI W te δ Q := EP.mono h fun d ⟨i, e, p⟩ => ⟨i, e, k i p⟩
theorem ei_op {C : Int → Int → Prop} {g : Int → Int → Int} (ha : EI W ta δ Pa) (hb : EI W tb δ Pb) (h : ∀ i j, Pa i → Pb j → C i j ∧ P (g i j)) : EI W (tOp (rI C fun i j => .int (g i j)) ta tb) δ P :=
  ep_op ha hb fun a b ⟨i, e1, pi⟩ ⟨j, e2, pj⟩ => by
    subst e1
    subst e2
    intro Hs H u v e r1 r2 Q q
    exact rv_intC (h i j pi pj).1 Hs H u v e r1 r2 Q fun z d Hs2 H2 st pd rd => q z d Hs2 H2 st ⟨_, pd, (h i j pi pj).2⟩ rd
theorem ei_op0 {g : Int → Int → Int} (ha : EI W ta δ Pa) (hb : EI W tb δ Pb) (h : ∀ i j, Pa i → Pb j → P (g i j)) : EI W (tOp (rI0 fun i j => .int (g i j)) ta tb) δ P :=
  ep_op ha hb fun a b ⟨i, e1, pi⟩ ⟨j, e2, pj⟩ => by
    subst e1
    subst e2
    intro Hs H u v e r1 r2 Q q
    exact rv_int Hs H u v e r1 r2 Q fun z d Hs2 H2 st pd rd => q z d Hs2 H2 st ⟨_, pd, h i j pi pj⟩ rd
theorem ei_int (h : EI W te δ P) : EI W (tCB (fun xs H Q => (∃ i, xs = [V.int i] ∧ Q (.int i) H) ∨ ∃ k, xs = [V.bl k] ∧ Q (.int (if k then 1 else 0)) H) (tCons te tNil)) δ P :=
  ep_cb (ap_cons h (ea_nil)) fun ds ⟨d, es, e, ⟨i, e1, p⟩, e2⟩ => by
    subst e
    subst e1
    subst e2
    exact fun Hs H vs ex r Q q => cv_int Hs H vs ex r Q fun z d Hs2 H2 st pd rd => q z d Hs2 H2 st ⟨_, pd, p⟩ rd
/-- the truth of a comparison of such ints -/
theorem ep_cmp0 {g : Int → Int → Bool} {Pb' : Bool → Prop} (ha : EI W ta δ Pa) (hb : EI W tb δ Pb) (h : ∀ i j, Pa i → Pb j → Pb' (g i j)) : EP W (tOp (rI0 fun i j => .bl (g i j)) ta tb) δ fun d => ∃ k, d = .bl k ∧ Pb' k :=
  ep_op ha hb fun a b ⟨i, e1, pi⟩ ⟨j, e2, pj⟩ => by
    subst e1
    subst e2
    intro Hs H u v e r1 r2 Q q
    exact rv_bool Hs H u v e r1 r2 Q fun z d Hs2 H2 st pd rd => q z d Hs2 H2 st ⟨_, pd, h i j pi pj⟩ rd
end
section
variable {W : Wc} {δ : List Sl} {te ta tb : TE}
theorem rv_ixScr {ns : List Int} {i x : Int} (h : atI ns i = some x) : Rv W (rIxL W.c.K) (.scr ns) (.int i) (.int x) := fun Hs H v u ex r1 r2 Q q => by
  cases r2
  cases r1 with
  | scr h1 =>
    rename_i a
    exact ⟨a, _, i, .int x, rfl, rfl, ex_l ex h1, atI_map V.int h, q _ _ Hs H (Stp.refl ex) rfl (.int x)⟩
theorem cv_len_scr {K : PySem.W.Frag} {ns : List Int} (hK : K = W.c.K := by rfl) : Cv W (fun xs H Q => ∃ p ys, xs = [.ref p] ∧ (SqL K H p ys ∨ SqT K H p ys) ∧ Q (.int ys.length) H) [.scr ns] (.int ns.length) := fun Hs H vs ex r Q q => by
  subst hK
  cases r with
  | cons r1 r2 =>
    cases r2
    cases r1 with
    | scr h =>
      refine ⟨_, _, rfl, .inl (ex_l ex h), ?_⟩
      rw [List.length_map]
      exact q _ _ Hs H (Stp.refl ex) rfl (.int _)
end
abbrev s_law_dice : Stmt := topS 40
theorem sc_law_dice : FnScope ["_law_script", "_law_spot", "_law_cell", "_law_left"] ["_law_script", "_law_spot"] (defScope s_law_dice) := ⟨rfl, rfl, rfl, by decide +kernel, rfl, by decide +kernel, by decide +kernel⟩
theorem d_dice (B : Bl mg) (F : Here K mg "_law_dice" s_law_dice ["_law_script", "_law_spot"]) :
    Def P w K mg base 1 "_law_dice" ["_law_script", "_law_spot"] (spF ⟨K, C⟩ (fun a : List Int × Nat => [.scr a.1, .int a.2]) (fun _ => True) (fun _ d => d = .dice)) := by
  refine def_ok F sc_law_dice (fun _ => rfl) (fun f cdv A outer s H E hr => ⟨_, (have nd := sc_law_dice.nd; (pss_cons (ps_set (i := 2) nd rfl (.inl rfl) (pe_ifExp (pt_cmpR (op_lt) (pv 1) (pe_callB call_len_seq (by rfl) B.b_len (by decide +kernel) (pa_cons (pv 0) pa_nil)) (nomark _)) (pe_callTy call_int1 (by rfl) B.b_int (by decide +kernel) (pa_cons (pe_ix ix_list (pv 0) (pv 1) (fun _ _ => rfl)) pa_nil)) (pe_op op_add (pe_op op_mul pe_int (pv 1)) pe_int)))
    (pss_cons (ps_set (i := 3) nd rfl (.inl rfl) (pe_op op_mod (pe_callB (call_max2 rfl) (by rfl) B.b_max (by decide +kernel) (pa_cons pe_int (pa_cons (pe_op op_sub (pe_callB call_abs (by rfl) B.b_abs (by decide +kernel) (pa_cons (pv 2) pa_nil)) (pe_op op_pow pe_int pe_int)) pa_nil))) (pe_op op_mulW (pe_op op_pow pe_int pe_int) (pe_op op_pow pe_int pe_int))))
    (pss_one (ps_ret (pe_dice (pe_lst (pa_cons (pv 3) (pa_cons (pe_op op_add (pe_op op_add (pe_op op_add (pe_op op_mul (pe_op op_mod (pe_callB call_abs (by rfl) B.b_abs (by decide +kernel) (pa_cons (pv 2) pa_nil)) pe_int) pe_int) (pe_op op_mul pe_int (pv 1))) (pe_op op_mul pe_int (pe_callTy call_int1 (by rfl) B.b_int (by decide +kernel) (pa_cons (pe_cmpR (op_lt) (pv 2) pe_int (nomark _)) pa_nil)))) pe_int) (pa_cons pe_int pa_nil)))))))))), fun Ho a hu => ?_⟩)
  obtain ⟨ns, n⟩ := a
  dsimp only [cxK]
  show Sx _ _ [.val (.scr ns), .val (.int n), .non, .non] _ _
  refine sq_asgP (P := fun d => ∃ c : Int, d = .int c ∧ True) (ep_if (Pt := fun b => b = decide ((n : Int) < ns.length)) (et_test (ev_op (ev_var rfl) (ev_cb (ea_cons (ev_var rfl) ea_nil) cv_len_scr) rv_bool)) (fun hk => ?_) (fun hk => ?_)) ?_
  · have hn : n < ns.length := by
      have := of_decide_eq_true (show true = _ from hk).symm
      omega
    exact ei_of (ev_cb (ea_cons (ev_op (ev_var rfl) (ev_var rfl) (rv_ixScr (atI_nat (List.getElem?_eq_getElem hn)))) ea_nil) cv_int) trivial
  · exact ei_of (ev_op (ev_op ev_int (ev_var rfl) (rv_intC (.inl ⟨by decide, by decide⟩))) ev_int rv_int) trivial
  · rintro d ⟨c, rfl, _⟩
    have hbig : (0 : Int) < 10 ^ (60 : Int).toNat * 10 ^ (60 : Int).toNat := by decide +kernel
    refine sq_asg (ev_op (ev_cb (ea_cons ev_int (ea_cons (ev_op (ev_cb (ea_cons (ev_var rfl) ea_nil) cv_abs) (ev_op ev_int ev_int (rv_intC ⟨by decide, by decide, by decide⟩)) rv_int) ea_nil)) cv_max2) (ev_op (ev_op ev_int ev_int (rv_intC ⟨by decide, by decide, by decide⟩)) (ev_op ev_int ev_int (rv_intC ⟨by decide, by decide, by decide⟩)) (rv_intC (show CMulW _ _ by unfold CMulW; decide +kernel))) (rv_intC hbig)) ?_
    refine sx_ret (ev_dice (ea_cons (ev_var rfl) (ea_cons (ev_op (ev_op (ev_op (ev_op (ev_op (ev_cb (ea_cons (ev_var rfl) ea_nil) cv_abs) ev_int (rv_intC (by decide))) ev_int (rv_intC (.inr ⟨by decide, by decide⟩))) (ev_op ev_int (ev_var rfl) (rv_intC (.inl ⟨by decide, by decide⟩))) rv_int) (ev_op ev_int (ev_cb (ea_cons (ev_op (ev_var rfl) ev_int rv_bool) ea_nil) cv_intb) (rv_intC (.inl ⟨by decide, by decide⟩))) rv_int) ev_int rv_int) (ea_cons ev_int ea_nil)))) rfl
abbrev s_law_roll : Stmt := topS 41
theorem sc_law_roll : FnScope ["_law_dice_here", "_law_total", "_law_found", "_law_one", "_law_two"] ["_law_dice_here", "_law_total"] (defScope s_law_roll) := ⟨rfl, rfl, rfl, by decide +kernel, rfl, by decide +kernel, by decide +kernel⟩
theorem d_roll (B : Bl mg) (F : Here K mg "_law_roll" s_law_roll ["_law_dice_here", "_law_total"]) :
    Def P w K mg base 1 "_law_roll" ["_law_dice_here", "_law_total"] (spF ⟨K, C⟩ (fun t : Int => [.dice, .int t]) (fun t => 0 < t ∧ t < 1000000) (fun t d => ∃ r : Int, d = .int r ∧ 0 ≤ r ∧ r < t)) := by
  refine def_ok F sc_law_roll (fun _ => rfl) (fun f cdv A outer s H E hr => ⟨_, (have nd := sc_law_roll.nd; (pss_cons (ps_if (pt_cmpR (op_gt) (pe_ix ix_dice (pv 0) pe_int (fun _ _ => rfl)) pe_int (nomark _))
    (pss_cons (ps_set (i := 2) nd rfl (.inl rfl) (pe_op op_mod (pe_callTy call_int1 (by rfl) B.b_int (by decide +kernel) (pa_cons (pe_ix ix_dice (pv 0) pe_int (fun _ _ => rfl)) pa_nil)) (pv 1)))
    (pss_cons (ps_asg (pe_op op_fdiv (pe_ix ix_dice (pv 0) pe_int (fun _ _ => rfl)) (pv 1)) (pg_sub (pv 0) pe_int set_dice))
    (pss_one (ps_ret (pv 2)))))
    pss_nil)
    (pss_cons (ps_asg (pe_op op_add (pe_ix ix_dice (pv 0) pe_int (fun _ _ => rfl)) pe_int) (pg_sub (pv 0) pe_int set_dice))
    (pss_cons (ps_set (i := 3) nd rfl (.inl rfl) (pe_op op_mod (pe_callTy call_int1 (by rfl) B.b_int (by decide +kernel) (pa_cons (pe_op op_add (pe_ix ix_dice (pv 0) pe_int (fun _ _ => rfl)) (pe_op op_mul pe_int (pe_ix ix_dice (pv 0) pe_int (fun _ _ => rfl)))) pa_nil)) pe_int))
    (pss_cons (ps_set (i := 4) nd rfl (.inl rfl) (pe_op op_add (pe_op op_mul (pe_op op_mod (pe_callTy call_int1 (by rfl) B.b_int (by decide +kernel) (pa_cons (pe_op op_add (pe_op op_mul (pv 3) (pv 3)) (pe_op op_mul pe_int (pe_ix ix_dice (pv 0) pe_int (fun _ _ => rfl)))) pa_nil)) pe_int) pe_int) (pv 3)))
    (pss_one (ps_ret (pe_op op_mod (pe_callTy call_int1 (by rfl) B.b_int (by decide +kernel) (pa_cons (pe_op op_fdiv (pv 4) pe_int) pa_nil)) (pv 1))))))))), fun Ho t hu => ?_⟩)
  obtain ⟨h0, h1⟩ := hu
  show Sx _ _ [.val .dice, .val (.int t), .non, .non, .non] _ _
  have ix : ∀ {δ : List Sl} {i : Int}, δ[0]? = some (.val .dice) → 0 ≤ i → i < 3 → EI ⟨⟨K, C⟩, Ho, H⟩ (tOp rIxDice (tVar 0) (tC (V.int i))) δ (fun _ => True) := fun hv a b => ep_ixDice (ev_var hv) ev_int a b fun n => ⟨n, rfl, trivial⟩
  have asInt : ∀ {δ : List Sl} {te : TE} {Q : Int → Prop}, EI ⟨⟨K, C⟩, Ho, H⟩ te δ Q → EP ⟨⟨K, C⟩, Ho, H⟩ te δ fun d => ∃ n, d = .int n := fun h => EP.mono h fun d ⟨i, e, _⟩ => ⟨i, e⟩
  refine sq_ifP (Pt := fun _ => True) (tp_test (ep_cmp0 (Pb := fun _ => True) (ix rfl (by decide) (by decide)) (ei_of ev_int trivial) fun _ _ _ _ => trivial)) (fun _ => ?_) (fun _ => ?_)
  · refine sx_assoc (sq_asgP (P := fun d => ∃ r : Int, d = .int r ∧ 0 ≤ r ∧ r < t) (ei_op (Pa := fun _ => True) (Pb := fun j => j = t) (ei_int (ix rfl (by decide) (by decide))) (ei_of (ev_var rfl) rfl) fun i j _ e => by subst e; exact ⟨h0, Int.emod_nonneg _ (by omega), Int.emod_lt_of_pos _ h0⟩) ?_)
    rintro d ⟨r, rfl, hr0, hr1⟩
    refine sx_assoc (sq_setDice (i := 0) (asInt (ei_op (P := fun _ => True) (Pa := fun _ => True) (Pb := fun j => j = t) (ix rfl (by decide) (by decide)) (ei_of (ev_var rfl) rfl) fun i j _ e => by subst e; exact ⟨⟨h0, by omega⟩, trivial⟩)) (ev_var rfl) ev_int (by decide) (by decide) ?_)
    exact sq_ret (ev_var rfl) ⟨r, rfl, hr0, hr1⟩
  · refine sx_nextS (sq_setDice (i := 2) (asInt (ei_op0 (P := fun _ => True) (Pa := fun _ => True) (Pb := fun _ => True) (ix rfl (by decide) (by decide)) (ei_of ev_int trivial) fun _ _ _ _ => trivial)) (ev_var rfl) ev_int (by decide) (by decide) ?_)
    refine sq_asgP (P := fun d => ∃ r : Int, d = .int r ∧ 0 ≤ r ∧ r < 2305843009213693907) (ei_op (Pa := fun _ => True) (Pb := fun j => j = 2305843009213693907) (ei_int (ei_op0 (Pa := fun _ => True) (Pb := fun _ => True) (ix rfl (by decide) (by decide)) (ei_op (Pa := fun i => i = 32452867) (Pb := fun _ => True) (ei_of ev_int rfl) (ix rfl (by decide) (by decide)) fun i j e _ => by subst e; exact ⟨.inl ⟨by decide, by decide⟩, trivial⟩) fun _ _ _ _ => trivial)) (ei_of ev_int rfl) fun i j _ e => by subst e; exact ⟨by decide, Int.emod_nonneg _ (by decide), Int.emod_lt_of_pos _ (by decide)⟩) ?_
    rintro d ⟨one, rfl, ho0, ho1⟩
    refine sq_asgP (P := fun d => ∃ r : Int, d = .int r ∧ True) (ei_op0 (Pa := fun _ => True) (Pb := fun _ => True) (ei_op (Pa := fun _ => True) (Pb := fun j => j = 6700417) (ei_op (Pa := fun _ => True) (Pb := fun j => j = 2305843009213693921) (ei_int (ei_op0 (Pa := fun _ => True) (Pb := fun _ => True) (ei_of (ev_op (ev_var rfl) (ev_var rfl) (rv_intC (.inl ⟨by omega, by omega⟩))) trivial) (ei_op (Pa := fun i => i = 97) (Pb := fun _ => True) (ei_of ev_int rfl) (ix rfl (by decide) (by decide)) fun i j e _ => by subst e; exact ⟨.inl ⟨by decide, by decide⟩, trivial⟩) fun _ _ _ _ => trivial)) (ei_of ev_int rfl) fun i j _ e => by subst e; exact ⟨by decide, trivial⟩) (ei_of ev_int rfl) fun i j _ e => by subst e; exact ⟨.inr ⟨by decide, by decide⟩, trivial⟩) (ei_of (ev_var rfl) trivial) fun _ _ _ _ => trivial) ?_
    rintro d ⟨two, rfl, _⟩
    refine sx_retP (P := fun d => ∃ r : Int, d = .int r ∧ 0 ≤ r ∧ r < t) (ei_op (Pa := fun _ => True) (Pb := fun j => j = t) (ei_int (ei_op (Pa := fun _ => True) (Pb := fun j => j = 65536) (ei_of (ev_var rfl) trivial) (ei_of ev_int rfl) fun i j _ e => by subst e; exact ⟨⟨by decide, by decide⟩, trivial⟩)) (ei_of (ev_var rfl) rfl) fun i j _ e => by subst e; exact ⟨h0, Int.emod_nonneg _ (by omega), Int.emod_lt_of_pos _ h0⟩) fun d h => h
end
end KD
set_option Elab.async false
set_option linter.all false
set_option maxRecDepth 100000
set_option maxHeartbeats 4000000
namespace KD
open PySem PySem.Spec PyProof.Rows L2
open Evl (Ex Ex.refl Ex.trans Ex.new Ex.mut ex_l ex_t fresh_back)

local macro_rules | `(tactic| walk_at "kr") => `(tactic| first
  | with_reducible exact rv_int | with_reducible exact rv_bool | with_reducible exact rv_eqI | with_reducible exact rv_neI | with_reducible exact rv_eqW | with_reducible exact rv_neW | with_reducible exact rv_isN | with_reducible exact rv_notN
  | with_reducible exact rv_eqI' | with_reducible exact rv_neI' | with_reducible exact rv_eqL | with_reducible exact rv_neL | with_reducible exact rv_ltW | with_reducible exact rv_inI | with_reducible exact rv_niI | with_reducible exact rv_inT | with_reducible exact rv_niT | with_reducible exact rv_eqB | with_reducible exact rv_neB | with_reducible exact rv_eqS | with_reducible exact rv_neS)
local macro_rules | `(tactic| walk_at "kd") => `(tactic| first
  | ((with_reducible apply ev_var); rfl)
  | with_reducible exact ev_int | with_reducible exact ev_bl | with_reducible exact ev_non | with_reducible exact ev_str
  | ((with_reducible apply ev_neg); walk_at "kd")
  | ((with_reducible apply ev_op); walk_at "kd"; walk_at "kd"; walk_at "kr")
  | ((with_reducible apply et_test); walk_at "kd")
  | ((with_reducible apply et_B); walk_at "kd")
  | ((with_reducible apply et_not); walk_at "kd")
  | ((with_reducible apply ev_notV); walk_at "kd")
  | ((with_reducible apply ev_cb); walk_at "kd"; first | with_reducible exact cv_len_w | with_reducible exact cv_len_il | with_reducible exact cv_len_wds | with_reducible exact cv_len_t | with_reducible exact cv_len_l | with_reducible exact cv_tuple_l | with_reducible exact cv_tuple_t | with_reducible exact cv_list_l | with_reducible exact cv_list_t | with_reducible exact cv_len_s | with_reducible exact cv_abs | with_reducible exact cv_int | with_reducible exact cv_intb | with_reducible exact cv_max2 | with_reducible exact cv_min2 | with_reducible exact cv_all)
  | with_reducible exact ea_nil
  | ((with_reducible apply ea_cons); walk_at "kd"; walk_at "kd")
  | ((with_reducible apply ev_tup); walk_at "kd"; (first | decide | (simp; done) | (simp; omega)))
  | ((with_reducible apply ev_lst); walk_at "kd"; (first | decide | (simp; done) | (simp; omega)))
  | ((with_reducible apply ev_sliceW); walk_at "kd"; walk_at "ko"; walk_at "ko")
  | ((with_reducible apply ev_sliceI); walk_at "kd"; walk_at "ko"; walk_at "ko")
  | ((with_reducible apply ev_sliceT); walk_at "kd"; walk_at "ko"; walk_at "ko")
  | ((with_reducible apply ev_sliceL); walk_at "kd"; walk_at "ko"; walk_at "ko")
  | ((with_reducible apply ev_revL); walk_at "kd"))
local macro_rules | `(tactic| walk_at "ko") => `(tactic| first | with_reducible exact op_no | ((with_reducible apply op_so); walk_at "kd"))

section
variable {P : Program} {w : World} {K : PySem.W.Frag} {mg : Str → Option Value} {base : Heap} {C : Addr}

section
variable {W : Wc} {δ : List Sl} {te ta tb : TE} {P Pa Pb : Int → Prop}
theorem ep_eqI (ha : EI W ta δ Pa) (hb : EI W tb δ Pb) : EP W (tOp rEq ta tb) δ fun d => ∃ k, d = .bl k ∧ True :=
  ep_op ha hb fun a b ⟨i, e1, pi⟩ ⟨j, e2, pj⟩ => by
    subst e1
    subst e2
    intro Hs H u v e r1 r2 Q q
    exact rv_eqI Hs H u v e r1 r2 Q fun z d Hs2 H2 st pd rd => q z d Hs2 H2 st ⟨_, pd, trivial⟩ rd
theorem ints_of {P : Int → Prop} : ∀ {l : List Dv}, (∀ x ∈ l, ∃ i : Int, x = .int i ∧ P i) → ∃ w : List Int, l = w.map Dv.int ∧ ∀ a ∈ w, P a
  | [], _ => ⟨[], rfl, fun a h => nomatch h⟩
  | x :: l, h => by
    obtain ⟨i, rfl, pi⟩ := h x (List.mem_cons_self ..)
    obtain ⟨w, rfl, pw⟩ := ints_of fun y hy => h y (List.mem_cons_of_mem _ hy)
    refine ⟨i :: w, rfl, fun a ha => ?_⟩
    rcases List.mem_cons.mp ha with rfl | ha
    · exact pi
    · exact pw a ha
end
/-- what a roll answers -/
def RollD (t : Int) (d : Dv) : Prop := ∃ r : Int, d = .int r ∧ 0 ≤ r ∧ r < t
abbrev spRoll (K : PySem.W.Frag) (C : Addr) : Sp := spF ⟨K, C⟩ (fun t : Int => [.dice, .int t]) (fun t => 0 < t ∧ t < 1000000) (fun t d => ∃ r : Int, d = .int r ∧ 0 ≤ r ∧ r < t)
theorem ei_roll {K : PySem.W.Frag} {C : Addr} {Ho Hb : Hp} {δ : List Sl} {tq : TA} {E : XK} {P : Int → Prop} (t : Int) (h : Ea ⟨⟨K, C⟩, Ho, Hb⟩ tq δ [.dice, .int t]) (h0 : 0 < t) (h1 : t < 1000000) (k : ∀ r : Int, 0 ≤ r → r < t → P r) :
    EI ⟨⟨K, C⟩, Ho, Hb⟩ (tCall (spRoll K C) [] E tq) δ P :=
  EP.mono (ep_call (AP.mono h fun ds e => ⟨t, e, ⟨h0, h1⟩, fun d h => h⟩)) fun d ⟨r, e, a, b⟩ => ⟨r, e, k r a b⟩
abbrev s_law_pick : Stmt := topS 42
theorem sc_law_pick : FnScope ["_law_dice_here", "_law_items"] ["_law_dice_here", "_law_items"] (defScope s_law_pick) := ⟨rfl, rfl, rfl, by decide +kernel, rfl, by decide +kernel, by decide +kernel⟩
theorem d_pick (B : Bl mg) (F : Here K mg "_law_pick" s_law_pick ["_law_dice_here", "_law_items"])
    (D_law_roll : Def P w K mg base 1 "_law_roll" ["_law_dice_here", "_law_total"] (spRoll K C)) :
    Def P w K mg base 2 "_law_pick" ["_law_dice_here", "_law_items"] (spF ⟨K, C⟩ (fun l : List Dv => [.dice, .lst l]) (fun l => 0 < l.length ∧ l.length < 1000) (fun l d => d ∈ l)) := by
  refine def_ok F sc_law_pick (fun _ => rfl) (fun f cdv A outer s H E hr => ⟨_, (have nd := sc_law_pick.nd; (pss_one (ps_ret (pe_ix ix_list (pv 1) (pe_def D_law_roll (hr.mono (by decide)) (by rfl) (pa_cons (pv 0) (pa_cons (pe_callB call_len_seq (by rfl) B.b_len (by decide +kernel) (pa_cons (pv 1) pa_nil)) pa_nil))) (fun _ _ => rfl))))), fun Ho l hu => ?_⟩)
  obtain ⟨h0, h1⟩ := hu
  show Sx _ _ [.val .dice, .val (.lst l)] _ _
  refine sx_retP (P := fun d => d ∈ l) (ep_op (Pa := fun d => d = .lst l) (Pb := fun d => ∃ r : Int, d = .int r ∧ (0 ≤ r ∧ r < l.length)) (ev_var rfl) (ei_roll l.length (ea_cons (ev_var rfl) (ea_cons (ev_cb (ea_cons (ev_var rfl) ea_nil) cv_len_l) ea_nil)) (by omega) (by omega) fun r a b => ⟨a, b⟩) ?_) fun d h => h
  rintro a b rfl ⟨r, rfl, hr0, hr1⟩
  obtain ⟨n, rfl⟩ : ∃ n : Nat, r = n := ⟨r.toNat, by omega⟩
  have hn : n < l.length := by omega
  intro Hs H u v e r1 r2 Q q
  exact rv_ixL (atI_nat (List.getElem?_eq_getElem hn)) Hs H u v e r1 r2 Q fun z d Hs2 H2 st pd rd => q z d Hs2 H2 st (by rw [pd]; exact List.getElem_mem hn) rd
abbrev s_law_letter : Stmt := topS 43
theorem sc_law_letter : FnScope ["_law_dice_here", "_law_prime", "_law_way"] ["_law_dice_here", "_law_prime"] (defScope s_law_letter) := ⟨rfl, rfl, rfl, by decide +kernel, rfl, by decide +kernel, by decide +kernel⟩
theorem d_letter (B : Bl mg) (F : Here K mg "_law_letter" s_law_letter ["_law_dice_here", "_law_prime"])
    (D_law_roll : Def P w K mg base 1 "_law_roll" ["_law_dice_here", "_law_total"] (spRoll K C)) :
    Def P w K mg base 2 "_law_letter" ["_law_dice_here", "_law_prime"] (spF ⟨K, C⟩ (fun p : Int => [.dice, .int p]) (fun p => 2 ≤ p ∧ p ≤ 31) (fun p d => ∃ r : Int, d = .int r ∧ -1 ≤ r ∧ r < p)) := by
  refine def_ok F sc_law_letter (fun _ => rfl) (fun f cdv A outer s H E hr => ⟨_, (have nd := sc_law_letter.nd; (pss_cons (ps_set (i := 2) nd rfl (.inl rfl) (pe_def D_law_roll (hr.mono (by decide)) (by rfl) (pa_cons (pv 0) (pa_cons pe_int pa_nil))))
    (pss_one (ps_ret (pe_ifExp (pt_cmpR (op_lt) (pv 2) pe_int (nomark _)) (pe_un un_neg pe_int) (pe_ifExp (pt_cmpR (op_eq) (pv 2) pe_int (nomark _)) pe_int (pe_def D_law_roll (hr.mono (by decide)) (by rfl) (pa_cons (pv 0) (pa_cons (pv 1) pa_nil))))))))), fun Ho p hu => ?_⟩)
  obtain ⟨h0, h1⟩ := hu
  show Sx _ _ [.val .dice, .val (.int p), .non] _ _
  refine sq_asgP (P := fun d => ∃ r : Int, d = .int r ∧ True) (ei_roll 5 (ea_cons (ev_var rfl) (ea_cons ev_int ea_nil)) (by decide) (by decide) fun _ _ _ => trivial) ?_
  rintro d ⟨way, rfl, _⟩
  refine sx_retP (P := fun d => ∃ r : Int, d = .int r ∧ -1 ≤ r ∧ r < p) (ep_if (Pt := fun _ => True) (tp_test (ep_cmp0 (Pb' := fun _ => True) (ei_of (P := fun _ => True) (ev_var rfl) trivial) (ei_of (P := fun _ => True) ev_int trivial) fun _ _ _ _ => trivial)) (fun _ => ei_of (ev_neg ev_int) ⟨by omega, by omega⟩) fun _ => ep_if (Pt := fun _ => True) (tp_test (ep_eqI (Pa := fun _ => True) (Pb := fun _ => True) (ei_of (ev_var rfl) trivial) (ei_of ev_int trivial))) (fun _ => ei_of ev_int ⟨by omega, by omega⟩) fun _ => ei_roll p (ea_cons (ev_var rfl) (ea_cons (ev_var rfl) ea_nil)) (by omega) (by omega) fun r a b => ⟨by omega, b⟩) fun d h => h
abbrev spLetter (K : PySem.W.Frag) (C : Addr) : Sp := spF ⟨K, C⟩ (fun p : Int => [.dice, .int p]) (fun p => 2 ≤ p ∧ p ≤ 31) (fun p d => ∃ r : Int, d = .int r ∧ -1 ≤ r ∧ r < p)
/-- drawn letters -/
def DrawnP (p : Int) (n : Nat) (w : List Int) : Prop := w.length ≤ n ∧ ∀ a ∈ w, -1 ≤ a ∧ a < p
def DrawnW (p : Int) (n : Nat) (w : List Int) : Prop := DrawnP p n w ∧ KM.Valid w
abbrev s_law_point_drawn : Stmt := topS 44
theorem sc_law_point_drawn : FnScope ["_law_dice_here", "_law_prime", "_law_most", "_law_size", "_law_turn"] ["_law_dice_here", "_law_prime", "_law_most"] (defScope s_law_point_drawn) := ⟨rfl, rfl, rfl, by decide +kernel, rfl, by decide +kernel, by decide +kernel⟩
theorem d_point_drawn (B : Bl mg) (F : Here K mg "_law_point_drawn" s_law_point_drawn ["_law_dice_here", "_law_prime", "_law_most"])
    (D_law_roll : Def P w K mg base 1 "_law_roll" ["_law_dice_here", "_law_total"] (spRoll K C)) (D_law_letter : Def P w K mg base 2 "_law_letter" ["_law_dice_here", "_law_prime"] (spLetter K C)) :
    Def P w K mg base 3 "_law_point_drawn" ["_law_dice_here", "_law_prime", "_law_most"] (spF ⟨K, C⟩ (fun a : Int × Nat => [.dice, .int a.1, .int a.2]) (fun a => 2 ≤ a.1 ∧ a.1 ≤ 31 ∧ a.2 ≤ 50) (fun a d => ∃ w, d = wd w ∧ DrawnP a.1 a.2 w)) := by
  refine def_ok F sc_law_point_drawn (fun _ => rfl) (fun f cdv A outer s H E hr => ⟨_, (have nd := sc_law_point_drawn.nd; (pss_cons (ps_set (i := 3) nd rfl (.inl rfl) (pe_callB (call_max2 rfl) (by rfl) B.b_max (by decide +kernel) (pa_cons (pe_def D_law_roll (hr.mono (by decide)) (by rfl) (pa_cons (pv 0) (pa_cons (pe_op op_add (pv 2) pe_int) pa_nil))) (pa_cons (pe_def D_law_roll (hr.mono (by decide)) (by rfl) (pa_cons (pv 0) (pa_cons (pe_op op_add (pv 2) pe_int) pa_nil))) pa_nil))))
    (pss_one (ps_ret (pe_callTy call_tuple_of (by rfl) B.b_tuple (by decide +kernel) (pa_cons (pe_lc (own := [("_law_turn", 4)]) (g := gName 4) (tt := tYes) rfl nd (pi_range1 (by rfl) B.b_range (pa_cons (pv 3) pa_nil)) (blkOk_by (own := [("_law_turn", 4)]) (N := ["_law_dice_here", "_law_prime", "_law_most", "_law_size", "_law_turn"]) (sc := defScope s_law_point_drawn) (by decide +kernel)) (fun _ _ _ _ _ => pg_name (i := 4) nd rfl (Or.inl rfl)) (fun _ _ _ _ _ => pts_nil) (fun _ _ _ _ _ => (pe_def D_law_letter (hr.mono (by decide)) (by rfl) (pa_cons (pv 0) (pa_cons (pv 1) pa_nil))))) pa_nil)))))), fun Ho a hu => ?_⟩)
  obtain ⟨p, n⟩ := a
  obtain ⟨h0, h1, h2⟩ := hu
  dsimp only [cxK] at h0 h1 h2 ⊢
  show Sx _ _ [.val .dice, .val (.int p), .val (.int n), .non, .non] _ _
  have rl : ∀ {δ : List Sl} {tz : TE}, δ[0]? = some (.val .dice) → δ[2]? = some (.val (.int n)) → EI ⟨⟨K, C⟩, Ho, H⟩ (tCall (spRoll K C) [] E0 (tCons (tVar 0) (tCons (tOp (rI0 fun i j => .int (i + j)) (tVar 2) (tC (V.int 1))) tNil))) δ fun r => 0 ≤ r ∧ r < (n : Int) + 1 := fun a b => ei_roll _ (ea_cons (ev_var a) (ea_cons (ev_op (ev_var b) ev_int rv_int) ea_nil)) (by omega) (by omega) fun r x y => ⟨x, y⟩
  refine sq_asgP (P := fun d => ∃ r : Int, d = .int r ∧ 0 ≤ r ∧ r < (n : Int) + 1) (ep_cb (ap_cons (rl (tz := tC V.non) rfl rfl) (ap_cons (rl (tz := tC V.non) rfl rfl) ea_nil)) ?_) ?_
  · rintro ds ⟨d, es, rfl, ⟨i, rfl, i0, i1⟩, d2, e2, rfl, ⟨j, rfl, j0, j1⟩, rfl⟩
    intro Hs H vs ex r Q q
    exact cv_max2 Hs H vs ex r Q fun z d Hs2 H2 st pd rd => q z d Hs2 H2 st ⟨_, pd, by split <;> omega, by split <;> omega⟩ rd
  · rintro d ⟨sz, rfl, hs0, hs1⟩
    refine sx_retP (P := fun d => ∃ w, d = wd w ∧ DrawnP p n w) (ep_cb (ap_cons (ep_lcA (js := [4]) (P := fun x => ∃ i : Int, x = .int i ∧ (-1 ≤ i ∧ i < p)) (Py := fun ys => ys = rngD 0 sz.toNat) (iv_rng1 (ea_cons (ev_var rfl) ea_nil) (by omega) (by omega)) (fun ys e => by subst e; rw [rngD_len]; omega) (by simp) fun ys e d hd => ⟨_, tg_name, ?_⟩) ea_nil) ?_) fun d h => h
    · exact EP.mono (ep_call (AP.mono (ea_cons (ev_var rfl) (ea_cons (ev_var rfl) ea_nil)) fun ds e => ⟨p, e, ⟨h0, h1⟩, fun d h => h⟩)) fun d h => h
    · rintro ds ⟨d, es, rfl, ⟨ys, l, rfl, rfl, hl, hx⟩, rfl⟩
      obtain ⟨w, rfl, hw⟩ := ints_of hx
      rw [List.length_map, rngD_len] at hl
      intro Hs H vs ex r Q q
      exact cv_tuple_l rfl Hs H vs ex r Q fun z d Hs2 H2 st pd rd => q z d Hs2 H2 st ⟨w, pd, by omega, hw⟩ rd
end
end KD
set_option Elab.async false
set_option linter.all false
set_option maxRecDepth 100000
set_option maxHeartbeats 4000000
namespace KD
open PySem PySem.Spec PyProof.Rows L2
open Evl (Ex Ex.refl Ex.trans Ex.new Ex.mut ex_l ex_t fresh_back)

local macro_rules | `(tactic| walk_at "kr") => `(tactic| first
  | with_reducible exact rv_int | with_reducible exact rv_bool | with_reducible exact rv_eqI | with_reducible exact rv_neI | with_reducible exact rv_eqW | with_reducible exact rv_neW | with_reducible exact rv_isN | with_reducible exact rv_notN
  | with_reducible exact rv_eqI' | with_reducible exact rv_neI' | with_reducible exact rv_eqL | with_reducible exact rv_neL | with_reducible exact rv_ltW | with_reducible exact rv_inI | with_reducible exact rv_niI | with_reducible exact rv_inT | with_reducible exact rv_niT | with_reducible exact rv_eqB | with_reducible exact rv_neB | with_reducible exact rv_eqS | with_reducible exact rv_neS)
local macro_rules | `(tactic| walk_at "kd") => `(tactic| first
  | ((with_reducible apply ev_var); rfl)
  | with_reducible exact ev_int | with_reducible exact ev_bl | with_reducible exact ev_non | with_reducible exact ev_str
  | ((with_reducible apply ev_neg); walk_at "kd")
  | ((with_reducible apply ev_op); walk_at "kd"; walk_at "kd"; walk_at "kr")
  | ((with_reducible apply et_test); walk_at "kd")
  | ((with_reducible apply et_B); walk_at "kd")
  | ((with_reducible apply et_not); walk_at "kd")
  | ((with_reducible apply ev_notV); walk_at "kd")
  | ((with_reducible apply ev_cb); walk_at "kd"; first | with_reducible exact cv_len_w | with_reducible exact cv_len_il | with_reducible exact cv_len_wds | with_reducible exact cv_len_t | with_reducible exact cv_len_l | with_reducible exact cv_tuple_l | with_reducible exact cv_tuple_t | with_reducible exact cv_list_l | with_reducible exact cv_list_t | with_reducible exact cv_len_s | with_reducible exact cv_abs | with_reducible exact cv_int | with_reducible exact cv_intb | with_reducible exact cv_max2 | with_reducible exact cv_min2 | with_reducible exact cv_all)
  | with_reducible exact ea_nil
  | ((with_reducible apply ea_cons); walk_at "kd"; walk_at "kd")
  | ((with_reducible apply ev_tup); walk_at "kd"; (first | decide | (simp; done) | (simp; omega)))
  | ((with_reducible apply ev_lst); walk_at "kd"; (first | decide | (simp; done) | (simp; omega)))
  | ((with_reducible apply ev_sliceW); walk_at "kd"; walk_at "ko"; walk_at "ko")
  | ((with_reducible apply ev_sliceI); walk_at "kd"; walk_at "ko"; walk_at "ko")
  | ((with_reducible apply ev_sliceT); walk_at "kd"; walk_at "ko"; walk_at "ko")
  | ((with_reducible apply ev_sliceL); walk_at "kd"; walk_at "ko"; walk_at "ko")
  | ((with_reducible apply ev_revL); walk_at "kd"))
local macro_rules | `(tactic| walk_at "ko") => `(tactic| first | with_reducible exact op_no | ((with_reducible apply op_so); walk_at "kd"))

section
variable {P : Program} {w : World} {K : PySem.W.Frag} {mg : Str → Option Value} {base : Heap} {C : Addr}

abbrev spPick (K : PySem.W.Frag) (C : Addr) : Sp := spF ⟨K, C⟩ (fun l : List Dv => [.dice, .lst l]) (fun l => 0 < l.length ∧ l.length < 1000) (fun l d => d ∈ l)
abbrev spPoint (K : PySem.W.Frag) (C : Addr) : Sp := spF ⟨K, C⟩ (fun a : Int × Nat => [.dice, .int a.1, .int a.2]) (fun a => 2 ≤ a.1 ∧ a.1 ≤ 31 ∧ a.2 ≤ 50) (fun a d => ∃ w, d = wd w ∧ DrawnP a.1 a.2 w)
abbrev spWord (K : PySem.W.Frag) (C : Addr) : Sp := spF ⟨K, C⟩ (fun a : Int × Nat => [.dice, .int a.1, .int a.2]) (fun a => 2 ≤ a.1 ∧ a.1 ≤ 31 ∧ 1 ≤ a.2 ∧ a.2 ≤ 50) (fun a d => ∃ w, d = wd w ∧ DrawnW a.1 a.2 w)
/-- 1 and a roll below p - 1, or 1 -/
theorem ei_pos {K : PySem.W.Frag} {C : Addr} {Ho Hb : Hp} {δ : List Sl} {i : Nat} {p : Int} (h0 : 2 ≤ p) (h1 : p ≤ 31) (hd : δ[0]? = some (.val .dice)) (hp : δ[i]? = some (.val (.int p))) :
    EI ⟨⟨K, C⟩, Ho, Hb⟩ (tIf (tTest (tOp (rI0 fun i j => V.bl (decide (i > j))) (tVar i) (tC (V.int 2)))) (tOp (rI0 fun i j => V.int (i + j)) (tC (V.int 1)) (tCall (spRoll K C) [] E0 (tCons (tVar 0) (tCons (tOp (rI0 fun i j => V.int (i - j)) (tVar i) (tC (V.int 1))) tNil)))) (tC (V.int 1))) δ fun a => 1 ≤ a ∧ a < p :=
  ep_if (Pt := fun b => b = decide (p > 2)) (et_test (ev_op (ev_var hp) ev_int rv_bool)) (fun hk => by
    have h2 : p > 2 := of_decide_eq_true (show true = _ from hk).symm
    exact ei_op0 (Pa := fun i => i = 1) (Pb := fun r => 0 ≤ r ∧ r < p - 1) (ei_of ev_int rfl) (ei_roll (p - 1) (ea_cons (ev_var hd) (ea_cons (ev_op (ev_var hp) ev_int rv_int) ea_nil)) (by omega) (by omega) fun r a b => ⟨a, b⟩) fun i j e ⟨a, b⟩ => by subst e; exact ⟨by omega, by omega⟩) fun _ => ei_of ev_int ⟨by omega, by omega⟩
abbrev s_law_word_drawn : Stmt := topS 45
theorem sc_law_word_drawn : FnScope ["_law_dice_here", "_law_prime", "_law_most", "_law_begun"] ["_law_dice_here", "_law_prime", "_law_most"] (defScope s_law_word_drawn) := ⟨rfl, rfl, rfl, by decide +kernel, rfl, by decide +kernel, by decide +kernel⟩
theorem d_word_drawn (B : Bl mg) (F : Here K mg "_law_word_drawn" s_law_word_drawn ["_law_dice_here", "_law_prime", "_law_most"])
    (D_law_roll : Def P w K mg base 1 "_law_roll" ["_law_dice_here", "_law_total"] (spRoll K C)) (D_law_pick : Def P w K mg base 2 "_law_pick" ["_law_dice_here", "_law_items"] (spPick K C)) (D_law_point_drawn : Def P w K mg base 3 "_law_point_drawn" ["_law_dice_here", "_law_prime", "_law_most"] (spPoint K C)) :
    Def P w K mg base 4 "_law_word_drawn" ["_law_dice_here", "_law_prime", "_law_most"] (spWord K C) := by
  refine def_ok F sc_law_word_drawn (fun _ => rfl) (fun f cdv A outer s H E hr => ⟨_, (have nd := sc_law_word_drawn.nd; (pss_cons (ps_set (i := 3) nd rfl (.inl rfl) (pe_def D_law_point_drawn (hr.mono (by decide)) (by rfl) (pa_cons (pv 0) (pa_cons (pv 1) (pa_cons (pe_op op_sub (pv 2) pe_int) pa_nil)))))
    (pss_cons (ps_if (PW.pt (pw_and (pt_cmpR (op_eqD (hu64 hr)) (pv 3) (pe_tup pa_nil) (nomark _)) (pw_and1 (pt_cmpR (op_eq) (pe_def D_law_roll (hr.mono (by decide)) (by rfl) (pa_cons (pv 0) (pa_cons pe_int pa_nil))) pe_int (nomark _)))))
    (pss_one (ps_ret (pe_def D_law_pick (hr.mono (by decide)) (by rfl) (pa_cons (pv 0) (pa_cons (pe_lst (pa_cons (pe_tup pa_nil) (pa_cons (pe_tup (pa_cons (pe_un un_neg pe_int) pa_nil)) pa_nil))) pa_nil)))))
    pss_nil)
    (pss_one (ps_ret (pe_op op_catA (pv 3) (pe_tup (pa_cons (pe_ifExp (pt_cmpR (op_gt) (pv 1) pe_int (nomark _)) (pe_op op_add pe_int (pe_def D_law_roll (hr.mono (by decide)) (by rfl) (pa_cons (pv 0) (pa_cons (pe_op op_sub (pv 1) pe_int) pa_nil)))) pe_int) pa_nil)))))))), fun Ho a hu => ?_⟩)
  obtain ⟨p, n⟩ := a
  obtain ⟨h0, h1, h2, h3⟩ := hu
  dsimp only [cxK] at h0 h1 h2 h3 ⊢
  show Sx _ _ [.val .dice, .val (.int p), .val (.int n), .non] _ _
  have hn : (n : Int) - 1 = ((n - 1 : Nat) : Int) := by omega
  refine sq_asgP (P := fun d => ∃ w, d = wd w ∧ DrawnP p (n - 1) w) (ep_call (AP.mono (ea_cons (ev_var rfl) (ea_cons (ev_var rfl) (ea_cons (ev_op (ev_var rfl) ev_int rv_int) ea_nil))) fun ds e => ⟨(p, n - 1), by rw [e, hn], ⟨h0, h1, by dsimp only; omega⟩, fun d h => h⟩)) ?_
  rintro d ⟨u, rfl, hu1, hu2⟩
  refine sq_ifP (Pt := fun _ => True) (tp_and (P1 := fun _ => True) (P2 := fun _ => True) ?_ (fun _ => tp_test (ep_eqI (Pa := fun _ => True) (Pb := fun _ => True) (ei_roll 6 (ea_cons (ev_var rfl) (ea_cons ev_int ea_nil)) (by decide) (by decide) fun _ _ _ => trivial) (ei_of ev_int trivial))) (fun _ => trivial) fun _ _ => trivial) (fun _ => ?_) (fun _ => ?_)
  · exact tp_test (EP.mono (ev_op (ev_var (d := wd u) rfl) (ev_eq (e := wd []) (ev_tup ea_nil (by simp)) rfl) rv_eqW) fun d e => ⟨_, e, trivial⟩)
  · refine sq_retP (P := fun d => d ∈ [wd [], wd [-1]]) (ep_call (AP.mono (ea_cons (ev_var rfl) (ea_cons (ev_eq (e := .lst [wd [], wd [-1]]) (ev_lst (ea_cons (ev_tup ea_nil (by simp)) (ea_cons (ev_tup (ea_cons (ev_neg ev_int) ea_nil) (by simp)) ea_nil)) (by simp)) rfl) ea_nil)) fun ds e => ⟨[wd [], wd [-1]], e, ⟨by simp, by simp⟩, fun d h => h⟩)) ?_
    intro d hd
    rcases List.mem_cons.mp hd with rfl | hd
    · exact ⟨[], rfl, ⟨by simp, by simp⟩, .inl rfl⟩
    · have e := List.mem_singleton.mp hd
      subst e
      refine ⟨[-1], rfl, ⟨by simpa using h2, fun a ha => ?_⟩, .inr (.inl rfl)⟩
      have e := List.mem_singleton.mp ha
      subst e
      omega
  · refine sx_nextS (sx_retP (P := fun d => ∃ w, d = wd w ∧ DrawnW p n w) (ep_op (Pa := fun d => d = wd u) (Pb := fun d => ∃ a : Int, d = wd [a] ∧ 1 ≤ a ∧ a < p) (ev_var rfl) (EP.mono (ep_tup (ap_cons (ei_pos h0 h1 rfl rfl) ea_nil) ?_) ?_) ?_) fun d h => h)
    · rintro ds ⟨d, es, rfl, _, rfl⟩
      simp
    · rintro d ⟨ds, rfl, d, es, rfl, ⟨a, rfl, ha⟩, rfl⟩
      exact ⟨a, rfl, ha⟩
    · rintro x y rfl ⟨a, rfl, ha0, ha1⟩ Hs H z v e r1 r2 Q q
      refine rv_catW (w := u) (u := [a]) (by simp; omega) Hs H z v e r1 r2 Q fun z d Hs2 H2 st pd rd => q z d Hs2 H2 st ⟨u ++ [a], pd, ⟨by simp; omega, fun b hb => ?_⟩, .inr (.inr ⟨a, u.reverse, by simp, by omega⟩)⟩ rd
      rcases List.mem_append.mp hb with hb | hb
      · exact hu2 b hb
      · have e := List.mem_singleton.mp hb
        subst e
        exact ⟨by omega, ha1⟩
abbrev s_law_wd_pair : Stmt := topS 55
theorem sc_law_wd_pair : FnScope ["_law_dice_here", "_law_prime"] ["_law_dice_here"] (defScope s_law_wd_pair) := ⟨rfl, rfl, rfl, by decide +kernel, rfl, by decide +kernel, by decide +kernel⟩
theorem d_wd_pair (B : Bl mg) (F : Here K mg "_law_wd_pair" s_law_wd_pair ["_law_dice_here"])
    (D_law_pick : Def P w K mg base 2 "_law_pick" ["_law_dice_here", "_law_items"] (spPick K C)) (D_law_word_drawn : Def P w K mg base 4 "_law_word_drawn" ["_law_dice_here", "_law_prime", "_law_most"] (spWord K C)) :
    Def P w K mg base 5 "_law_wd_pair" ["_law_dice_here"] (spF ⟨K, C⟩ (fun _ : Unit => [.dice]) (fun _ => True) (fun _ d => ∃ (p : Int) (w : List Int), d = .tup [.int p, wd w] ∧ p ∈ [2, 3, 5, 7, 31] ∧ DrawnW p 9 w)) := by
  refine def_ok F sc_law_wd_pair (fun _ => rfl) (fun f cdv A outer s H E hr => ⟨_, (have nd := sc_law_wd_pair.nd; (pss_cons (ps_set (i := 1) nd rfl (.inl rfl) (pe_def D_law_pick (hr.mono (by decide)) (by rfl) (pa_cons (pv 0) (pa_cons (pe_lst (pa_cons pe_int (pa_cons pe_int (pa_cons pe_int (pa_cons pe_int (pa_cons pe_int (pa_cons pe_int pa_nil))))))) pa_nil))))
    (pss_one (ps_ret (pe_tup (pa_cons (pv 1) (pa_cons (pe_def D_law_word_drawn (hr.mono (by decide)) (by rfl) (pa_cons (pv 0) (pa_cons (pv 1) (pa_cons pe_int pa_nil)))) pa_nil))))))), fun Ho a hu => ?_⟩)
  show Sx _ _ [.val .dice, .non] _ _
  refine sq_asgP (P := fun d => d ∈ [Dv.int 2, .int 3, .int 3, .int 5, .int 7, .int 31]) (ep_call (AP.mono (ea_cons (ev_var rfl) (ea_cons (ev_lst (by walk_at "kd") (by simp)) ea_nil)) fun ds e => ⟨[.int 2, .int 3, .int 3, .int 5, .int 7, .int 31], e, ⟨by simp, by simp⟩, fun d h => h⟩)) ?_
  intro d hd
  obtain ⟨p, rfl, hp⟩ : ∃ p : Int, d = .int p ∧ p ∈ [2, 3, 5, 7, 31] := by
    simp only [List.mem_cons, List.not_mem_nil, or_false] at hd
    rcases hd with rfl | rfl | rfl | rfl | rfl | rfl
    · exact ⟨2, rfl, by decide⟩
    · exact ⟨3, rfl, by decide⟩
    · exact ⟨3, rfl, by decide⟩
    · exact ⟨5, rfl, by decide⟩
    · exact ⟨7, rfl, by decide⟩
    · exact ⟨31, rfl, by decide⟩
  have hb : 2 ≤ p ∧ p ≤ 31 := by
    simp only [List.mem_cons, List.not_mem_nil, or_false] at hp
    omega
  refine sx_retP (P := fun d => ∃ (p : Int) (w : List Int), d = .tup [.int p, wd w] ∧ p ∈ [2, 3, 5, 7, 31] ∧ DrawnW p 9 w) (EP.mono (ep_tup (ap_cons (ev_var (d := .int p) rfl) (ap_cons (P := fun d => ∃ w, d = wd w ∧ DrawnW p 9 w) (ep_call (AP.mono (ea_cons (ev_var rfl) (ea_cons (ev_var rfl) (ea_cons ev_int ea_nil))) fun ds e => ⟨(p, 9), e, ⟨hb.1, hb.2, by show 1 ≤ 9; decide, by show 9 ≤ 50; decide⟩, fun d h => h⟩)) ea_nil)) ?_) ?_) fun d h => h
  · rintro ds ⟨d, es, rfl, _, d2, e2, rfl, _, rfl⟩
    simp
  · rintro d ⟨ds, rfl, d, es, rfl, rfl, d2, e2, rfl, ⟨w, rfl, hw⟩, rfl⟩
    exact ⟨p, w, rfl, hp, hw⟩
end
end KD
set_option Elab.async false
set_option linter.all false
set_option maxRecDepth 100000
set_option maxHeartbeats 4000000
namespace KD
open PySem PySem.Spec PyProof.Rows L2
open Evl (Ex Ex.refl Ex.trans Ex.new Ex.mut ex_l ex_t fresh_back)

local macro_rules | `(tactic| walk_at "kr") => `(tactic| first
  | with_reducible exact rv_int | with_reducible exact rv_bool | with_reducible exact rv_eqI | with_reducible exact rv_neI | with_reducible exact rv_eqW | with_reducible exact rv_neW | with_reducible exact rv_isN | with_reducible exact rv_notN
  | with_reducible exact rv_eqI' | with_reducible exact rv_neI' | with_reducible exact rv_eqL | with_reducible exact rv_neL | with_reducible exact rv_ltW | with_reducible exact rv_inI | with_reducible exact rv_niI | with_reducible exact rv_inT | with_reducible exact rv_niT | with_reducible exact rv_eqB | with_reducible exact rv_neB | with_reducible exact rv_eqS | with_reducible exact rv_neS)
local macro_rules | `(tactic| walk_at "kd") => `(tactic| first
  | ((with_reducible apply ev_var); rfl)
  | with_reducible exact ev_int | with_reducible exact ev_bl | with_reducible exact ev_non | with_reducible exact ev_str
  | ((with_reducible apply ev_neg); walk_at "kd")
  | ((with_reducible apply ev_op); walk_at "kd"; walk_at "kd"; walk_at "kr")
  | ((with_reducible apply et_test); walk_at "kd")
  | ((with_reducible apply et_B); walk_at "kd")
  | ((with_reducible apply et_not); walk_at "kd")
  | ((with_reducible apply ev_notV); walk_at "kd")
  | ((with_reducible apply ev_cb); walk_at "kd"; first | with_reducible exact cv_len_w | with_reducible exact cv_len_il | with_reducible exact cv_len_wds | with_reducible exact cv_len_t | with_reducible exact cv_len_l | with_reducible exact cv_tuple_l | with_reducible exact cv_tuple_t | with_reducible exact cv_list_l | with_reducible exact cv_list_t | with_reducible exact cv_len_s | with_reducible exact cv_abs | with_reducible exact cv_int | with_reducible exact cv_intb | with_reducible exact cv_max2 | with_reducible exact cv_min2 | with_reducible exact cv_all)
  | with_reducible exact ea_nil
  | ((with_reducible apply ea_cons); walk_at "kd"; walk_at "kd")
  | ((with_reducible apply ev_tup); walk_at "kd"; (first | decide | (simp; done) | (simp; omega)))
  | ((with_reducible apply ev_lst); walk_at "kd"; (first | decide | (simp; done) | (simp; omega)))
  | ((with_reducible apply ev_sliceW); walk_at "kd"; walk_at "ko"; walk_at "ko")
  | ((with_reducible apply ev_sliceI); walk_at "kd"; walk_at "ko"; walk_at "ko")
  | ((with_reducible apply ev_sliceT); walk_at "kd"; walk_at "ko"; walk_at "ko")
  | ((with_reducible apply ev_sliceL); walk_at "kd"; walk_at "ko"; walk_at "ko")
  | ((with_reducible apply ev_revL); walk_at "kd"))
local macro_rules | `(tactic| walk_at "ko") => `(tactic| first | with_reducible exact op_no | ((with_reducible apply op_so); walk_at "kd"))

section
variable {P : Program} {w : World} {K : PySem.W.Frag} {mg : Str → Option Value} {base : Heap} {C : Addr}

theorem noOwn_of9 {a b c e f : Dv} {ds : List Dv} {z6 : Sl} (h6 : z6.isOwn = false) : noOwn [.val a, .val b, .val c, .val e, .val f, .own ds, z6, .non, .non] 5 = true := by
  unfold noOwn
  show (!(false || (false || (false || (false || (false || (false || (z6.isOwn || (false || (false || false)))))))))) = true
  rw [h6]
  rfl
section
variable {W : Wc} {δ : List Sl} {tz : TS} {N : List Sl → Prop} {R : Dv → Prop}
theorem sq_ownP {i : Nat} {tq : TA} {Pq : List Dv → Prop} (h : AP W tq δ Pq) (hl : ∀ ds, Pq ds → ds.length ≤ 100000) (ho : noOwn δ i = true) (k : ∀ ds, Pq ds → Sx W tz (δ.set i (.own ds)) N R) : Sx W (tSeq (tAsg (tLst tq) (gName i)) tz) δ N R := fun σ Hs H s D hn hr =>
  (h.run s fun vs ds' Hs1 H1 st1 s1 pa ra => by
    refine ⟨by rw [ra.length]; exact len_ok (hl _ pa), fun p hp => ?_⟩
    have hs1 : Hs1 p = none := fresh_back s1.sub hp
    have st2 : Stp Hs1 H1 Hs1 (upd H1 p (.lst vs)) := ⟨Ex.refl _, Ex.new hp, s1.sub.trans (Ex.new hp), fun _ h _ => h⟩
    exact k ds' pa _ Hs1 _ ((s1.step st2).setOwn ho (fresh_back s1.stp.ex2 hp) hs1 upd_same ra) D (fun a b c d x y z => hn a b c d x ((st1.trans st2).ex1.trans y) z) hr : tLst tq σ H fun x H1 => gName i x σ H1 (tz D))
end
/-- a list of n rolls below p -/
theorem ep_rolls {K : PySem.W.Frag} {C : Addr} {Ho Hb : Hp} {δ : List Sl} {p : Int} (t : Int) (h0 : 2 ≤ p) (h1 : p ≤ 31) (ht : 0 < t) (ht2 : t < 100) (hd : (wipeD δ [8])[0]? = some (.val .dice)) (hp : (wipeD δ [8])[1]? = some (.val (.int p))) (hd' : δ[0]? = some (.val .dice)) (hl : 8 < δ.length)
    (hs0 : ∀ x, ((wipeD δ [8]).set 8 x)[0]? = some (.val .dice)) (hs1 : ∀ x, ((wipeD δ [8]).set 8 x)[1]? = some (.val (.int p))) :
    EP ⟨⟨K, C⟩, Ho, Hb⟩ (tLc (iRng1 (tCons (tCall (spRoll K C) [] E0 (tCons (tVar 0) (tCons (tC (V.int t)) tNil))) tNil)) (gName 8) tYes (tCall (spRoll K C) [] E0 (tCons (tVar 0) (tCons (tVar 1) tNil))) [8]) δ fun d => ∃ m : List Int, d = il m ∧ (m.length : Int) < t ∧ ∀ a ∈ m, 0 ≤ a ∧ a < p :=
  EP.mono (ep_lcA (js := [8]) (P := fun x => ∃ i : Int, x = .int i ∧ (0 ≤ i ∧ i < p)) (ip_rng1 (Pn := fun n => 0 ≤ n ∧ n < t) (AP.mono (ap_cons (ei_roll (P := fun r => 0 ≤ r ∧ r < t) t (ea_cons (ev_var hd') (ea_cons ev_int ea_nil)) ht (by omega) fun r a b => ⟨a, b⟩) ea_nil) fun ds ⟨d, es, e, ⟨r, e1, a, b⟩, e2⟩ => by
    subst e
    subst e1
    subst e2
    exact ⟨r, rfl, by omega, by omega, a, b⟩)) (fun ys ⟨n, e, a, b⟩ => by subst e; rw [rngD_len]; omega) (by simp) fun ys e d hd2 => ⟨_, tg_name, ei_roll p (ea_cons (ev_var (hs0 _)) (ea_cons (ev_var (hs1 _)) ea_nil)) (by omega) (by omega) fun r a b => ⟨a, b⟩⟩) fun d ⟨ys, l, ⟨n, e, a, b⟩, e1, hl, hx⟩ => by
    subst e
    subst e1
    obtain ⟨w, rfl, hw⟩ := ints_of hx
    rw [List.length_map, rngD_len] at hl
    exact ⟨w, rfl, by omega, hw⟩
abbrev s_law_kd_kin : Stmt := topS 57
theorem sc_law_kd_kin : FnScope ["_law_dice_here", "_law_prime", "_law_word", "_law_corners", "_law_size", "_law_found", "_law_at", "_law_more", "_law_turn"] ["_law_dice_here", "_law_prime", "_law_word"] (defScope s_law_kd_kin) := ⟨rfl, rfl, rfl, by decide +kernel, rfl, by decide +kernel, by decide +kernel⟩
theorem d_kd_kin (B : Bl mg) (F : Here K mg "_law_kd_kin" s_law_kd_kin ["_law_dice_here", "_law_prime", "_law_word"])
    (D_law_roll : Def P w K mg base 1 "_law_roll" ["_law_dice_here", "_law_total"] (spRoll K C))
    (D_law_corner_heights : Def P w K mg base 3 "_law_corner_heights" ["_law_word"] (spF ⟨K, C⟩ (fun u : List Int => [wd u]) (fun u => u.length ≤ 100) (fun u d => d = il (KM.corners u))))
    (D_law_kd_size : Def P w K mg base 4 "_law_kd_size" ["_law_word"] (spF ⟨K, C⟩ (fun u : List Int => [wd u]) (fun u => u.length ≤ 100) (fun u d => d = .int (KM.kdSize u)))) :
    Def P w K mg base 5 "_law_kd_kin" ["_law_dice_here", "_law_prime", "_law_word"] (spF ⟨K, C⟩ (fun a : Int × List Int => [.dice, .int a.1, wd a.2]) (fun a => 2 ≤ a.1 ∧ a.1 ≤ 31 ∧ a.2.length ≤ 50) (fun a d => ∃ kin, d = wd kin ∧ KM.KinOf a.1 a.2 kin)) := by
  refine def_ok F sc_law_kd_kin (fun _ => rfl) (fun f cdv A outer s H E hr => ⟨_, (have nd := sc_law_kd_kin.nd; (pss_cons (ps_par (i := 3) (j := 4) rfl nd rfl rfl (by decide) rfl rfl (pa_cons (pe_def D_law_corner_heights (hr.mono (by decide)) (by rfl) (pa_cons (pv 2) pa_nil)) (pa_cons (pe_def D_law_kd_size (hr.mono (by decide)) (by rfl) (pa_cons (pv 2) pa_nil)) pa_nil)) (by rfl))
    (pss_cons (ps_if (pt_cmpR (op_eqD (hu64 hr)) (pv 3) (pe_lst pa_nil) (nomark _))
    (pss_one (ps_ret (pe_op op_catA (pe_callTy call_tuple_of (by rfl) B.b_tuple (by decide +kernel) (pa_cons (pe_lc (own := [("_law_turn", 8)]) (g := gName 8) (tt := tYes) rfl nd (pi_range1 (by rfl) B.b_range (pa_cons (pe_def D_law_roll (hr.mono (by decide)) (by rfl) (pa_cons (pv 0) (pa_cons pe_int pa_nil))) pa_nil)) (blkOk_by (own := [("_law_turn", 8)]) (N := ["_law_dice_here", "_law_prime", "_law_word", "_law_corners", "_law_size", "_law_found", "_law_at", "_law_more", "_law_turn"]) (sc := defScope s_law_kd_kin) (by decide +kernel)) (fun _ _ _ _ _ => pg_name (i := 8) nd rfl (Or.inl rfl)) (fun _ _ _ _ _ => pts_nil) (fun _ _ _ _ _ => (pe_def D_law_roll (hr.mono (by decide)) (by rfl) (pa_cons (pv 0) (pa_cons (pv 1) pa_nil))))) pa_nil)) (pe_tup (pa_cons pe_int pa_nil)))))
    pss_nil)
    (pss_cons (ps_set (i := 5) nd rfl (.inl rfl) (pe_lst (pa_cons (pe_op op_sub (pe_def D_law_roll (hr.mono (by decide)) (by rfl) (pa_cons (pv 0) (pa_cons (pe_op op_add (pv 1) pe_int) pa_nil))) pe_int) pa_nil)))
    (pss_cons (ps_for PassesOwn.never rfl (pi_range2 (by rfl) B.b_range (pa_cons pe_int (pa_cons (pv 4) pa_nil))) (pg_name (i := 6) nd rfl (Or.inl rfl))
    (pss_one (ps_if (pt_cmpR (op_in_seq) (pe_op op_add (pv 6) pe_int) (pv 3) (by rfl))
    (pss_one (ps_expr (pe_bm PySem.F.plainAttrs_list PySem.F.slot_list_append PySem.F.type_list_append mt_append (pv 5) (pa_cons (pe_ix ix_tup (pv 2) (pv 6) (fun _ _ => rfl)) pa_nil))))
    (pss_one (ps_if (pt_cmpR (op_in_seq) (pv 6) (pv 3) (by rfl))
    (pss_one (ps_expr (pe_bm PySem.F.plainAttrs_list PySem.F.slot_list_append PySem.F.type_list_append mt_append (pv 5) (pa_cons (pe_ifExp (pt_cmpR (op_gt) (pv 1) pe_int (nomark _)) (pe_op op_add pe_int (pe_def D_law_roll (hr.mono (by decide)) (by rfl) (pa_cons (pv 0) (pa_cons (pe_op op_sub (pv 1) pe_int) pa_nil)))) pe_int) pa_nil))))
    (pss_one (ps_expr (pe_bm PySem.F.plainAttrs_list PySem.F.slot_list_append PySem.F.type_list_append mt_append (pv 5) (pa_cons (pe_def D_law_roll (hr.mono (by decide)) (by rfl) (pa_cons (pv 0) (pa_cons (pv 1) pa_nil))) pa_nil)))))))))
    (pss_cons (ps_setLc (i := 7) (own := [("_law_turn", 8)]) (g := gName 8) (tt := tYes) rfl nd rfl rfl (sw_true rfl rfl rfl (by decide +kernel)) (pi_range1 (by rfl) B.b_range (pa_cons (pe_def D_law_roll (hr.mono (by decide)) (by rfl) (pa_cons (pv 0) (pa_cons pe_int pa_nil))) pa_nil)) (blkOk_by (own := [("_law_turn", 8)]) (N := ["_law_dice_here", "_law_prime", "_law_word", "_law_corners", "_law_size", "_law_found", "_law_at", "_law_more", "_law_turn"]) (sc := defScope s_law_kd_kin) (by decide +kernel)) (fun _ _ _ _ _ => pg_name (i := 8) nd rfl (Or.inl rfl)) (fun _ _ _ _ _ => pts_nil) (fun _ _ _ _ _ => (pe_def D_law_roll (hr.mono (by decide)) (by rfl) (pa_cons (pv 0) (pa_cons (pv 1) pa_nil)))))
    (pss_one (ps_ret (pe_callTy call_tuple_of (by rfl) B.b_tuple (by decide +kernel) (pa_cons (pe_op op_cat (pe_op op_cat (pv 5) (pv 7)) (pe_op op_rep (pe_lst (pa_cons pe_int pa_nil)) (pe_callTy call_int1 (by rfl) B.b_int (by decide +kernel) (pa_cons (pe_cmpR (op_neD (hu64 hr)) (pv 7) (pe_lst pa_nil) (nomark _)) pa_nil)))) pa_nil)))))))))), fun Ho a hu => ?_⟩)
  obtain ⟨p, u⟩ := a
  obtain ⟨h0, h1, h2⟩ := hu
  dsimp only [cxK] at h0 h1 h2 ⊢
  show Sx _ _ [.val .dice, .val (.int p), .val (wd u), .non, .non, .non, .non, .non, .non] _ _
  refine sq_par (a := il (KM.corners u)) (b := .int (KM.kdSize u)) (ev_call u (by walk_at "kd") (by omega) fun d h => h) (ev_call u (by walk_at "kd") (by omega) fun d h => h) ?_
  obtain ⟨s1, s0⟩ := KM.kdSize_le u
  have sp := fun h => KM.kdSize_pos (w := u) h
  refine sq_if (k := decide (KM.corners u = [])) (et_test (ev_op (ev_var rfl) (ev_eq (e := il []) (ev_lst ea_nil (by simp)) rfl) rv_eqI')) (fun hk => ?_) (fun hk => ?_)
  · have hc : KM.corners u = [] := of_decide_eq_true hk
    refine sq_retP (P := fun d => ∃ l : List Int, d = wd (l ++ [1]) ∧ l.length ≤ 4 ∧ ∀ a ∈ l, 0 ≤ a ∧ a < p) (ep_op (Pa := fun d => ∃ l : List Int, d = wd l ∧ l.length ≤ 4 ∧ ∀ a ∈ l, 0 ≤ a ∧ a < p) (Pb := fun d => d = wd [1]) (ep_cb (ap_cons (ep_rolls 5 h0 h1 (by decide) (by decide) rfl rfl rfl (by simp) (fun _ => rfl) (fun _ => rfl)) ea_nil) ?_) (ev_eq (ev_tup (ea_cons ev_int ea_nil) (by simp)) rfl) ?_) fun d ⟨l, e, hl⟩ => ⟨l ++ [1], e, .inl ⟨hc, l, rfl, hl⟩⟩
    · rintro ds ⟨d, es, rfl, ⟨m, rfl, hm, hx⟩, rfl⟩ Hs H vs ex r Q q
      exact cv_tuple_l rfl Hs H vs ex r Q fun z d Hs2 H2 st pd rd => q z d Hs2 H2 st ⟨m, pd, by omega, hx⟩ rd
    · rintro x y ⟨l, rfl, hl, hx⟩ rfl Hs H z v e r1 r2 Q q
      exact rv_catW (w := l) (u := [1]) (by simp; omega) Hs H z v e r1 r2 Q fun z d Hs2 H2 st pd rd => q z d Hs2 H2 st ⟨l, pd, hl, hx⟩ rd
  · have hc : KM.corners u ≠ [] := of_decide_eq_false hk
    have hs := sp hc
    have hkin : ∀ kin, KM.KinOf p u kin ↔ ∃ f m : List Int, kin = f ++ m ++ (if m = [] then [] else [1]) ∧ f.length = (KM.kdSize u).toNat ∧ m.length ≤ 3 ∧ (∀ a ∈ m, 0 ≤ a ∧ a < p) ∧ ∀ i a, f[i]? = some a → KM.FL p u i a := fun kin => ⟨fun h => h.elim (fun h => absurd h.1 hc) (fun h => h.2), fun h => .inr ⟨hc, h⟩⟩
    have hmem : ∀ h : Int, (KM.corners u).contains h = true → h ≤ u.length := fun h hh => by
      obtain ⟨n, rfl, hn, _⟩ := KM.corner_mem (List.contains_iff_mem.mp hh)
      omega
    refine sx_nextS (sq_ownP (i := 5) (Pq := fun ds => ∃ a : Int, ds = [.int a] ∧ -1 ≤ a ∧ a < p) ?_ ?_ rfl ?_)
    · exact AP.mono (ap_cons (ei_op0 (P := fun r => -1 ≤ r ∧ r < p) (Pa := fun r => 0 ≤ r ∧ r < p + 1) (Pb := fun j => j = 1) (ei_roll (p + 1) (ea_cons (ev_var rfl) (ea_cons (ev_op (ev_var rfl) ev_int rv_int) ea_nil)) (by omega) (by omega) fun r a b => ⟨a, b⟩) (ei_of ev_int rfl) fun i j ⟨a, b⟩ e => by subst e; exact ⟨by omega, by omega⟩) ea_nil) fun ds ⟨d, es, e, ⟨a, e1, h⟩, e2⟩ => ⟨a, by rw [e, e1, e2], h⟩
    · rintro ds ⟨a, rfl, _⟩
      simp
    rintro ds ⟨a0, rfl, ha0⟩
    have hfl0 : KM.FL p u 0 a0 := by
      unfold KM.FL
      rw [if_pos rfl]
      exact ha0
    refine sq_for [6] (Py := fun ys => ys = rngD 1 (KM.kdSize u - 1).toNat) (iv_rng2 (ea_cons ev_int (ea_cons (ev_var rfl) ea_nil)) (by omega) (by omega) (by omega) (by omega)) (fun _ i δ => ∃ (f : List Int) (z6 : Sl), f.length = i + 1 ∧ (∀ j a, f[j]? = some a → KM.FL p u j a) ∧ z6.isOwn = false ∧ δ = [.val .dice, .val (.int p), .val (wd u), .val (il (KM.corners u)), .val (.int (KM.kdSize u)), .own (f.map Dv.int), z6, .non, .non]) (fun _ _ => ⟨[a0], .non, rfl, ?_, rfl, rfl⟩) ?_ ?_
    · intro j a hj
      cases j with
      | zero =>
        have e := Option.some.inj hj
        subst e
        exact hfl0
      | succ j => simp at hj
    · rintro ys i d δ' rfl hd ⟨f, z6, hf, hfl, h6, rfl⟩
      obtain ⟨hi, rfl⟩ := rngD_get hd
      have hi2 : (1 + (i : Nat) : Int) = ((i + 1 : Nat) : Int) := by omega
      rw [hi2]
      refine ⟨_, tg_name, ?_⟩
      have fin : ∀ a : Int, KM.FL p u (i + 1) a → ∃ (f' : List Int) (z6 : Sl), f'.length = i + 1 + 1 ∧ (∀ j a, f'[j]? = some a → KM.FL p u j a) ∧ z6.isOwn = false ∧ ([.val .dice, .val (.int p), .val (wd u), .val (il (KM.corners u)), .val (.int (KM.kdSize u)), .own (f.map Dv.int ++ [.int a]), .val (.int ((i + 1 : Nat) : Int)), .non, .non] : List Sl) = [.val .dice, .val (.int p), .val (wd u), .val (il (KM.corners u)), .val (.int (KM.kdSize u)), .own (f'.map Dv.int), z6, .non, .non] := fun a ha => ⟨f ++ [a], .val (.int ((i + 1 : Nat) : Int)), by simp [hf], fun j b hj => by
        rw [List.getElem?_append] at hj
        split at hj
        · exact hfl j b hj
        · rename_i hjl
          have hj0 : j = i + 1 := by
            have := (List.getElem?_eq_some_iff.mp hj).1
            simp at this
            omega
          subst hj0
          rw [hf, Nat.sub_self] at hj
          have e := Option.some.inj hj
          subst e
          exact ha, rfl, by rw [List.map_append]; rfl⟩
      refine sx_if (k := (KM.corners u).contains (((i + 1 : Nat) : Int) + 1)) (et_test (ev_op (ev_op (ev_var rfl) ev_int rv_int) (ev_var rfl) rv_inI)) (fun hk => ?_) (fun hk => ?_)
      · have hil := hmem _ hk
        have hlt : i + 1 < u.length := by omega
        refine sx_app (i := 5) rfl rfl (noOwn_of9 rfl) (by simp; omega) (ev_op (ev_var rfl) (ev_var rfl) (rv_ixW (atI_nat (List.getElem?_eq_getElem hlt)))) ?_
        rintro d rfl
        refine fin _ ?_
        unfold KM.FL
        rw [if_neg (by omega), if_pos hk]
        exact List.getElem?_eq_getElem hlt
      · refine sx_if (k := (KM.corners u).contains ((i + 1 : Nat) : Int)) (et_test (ev_op (ev_var rfl) (ev_var rfl) rv_inI)) (fun hk2 => ?_) (fun hk2 => ?_)
        · refine sx_app (i := 5) rfl rfl (noOwn_of9 rfl) (by simp; omega) (ei_pos h0 h1 rfl rfl) ?_
          rintro d ⟨a, rfl, ha⟩
          refine fin _ ?_
          unfold KM.FL
          rw [if_neg (by omega), if_neg (by rw [hk]; decide), if_pos hk2]
          exact ha
        · refine sx_app (i := 5) rfl rfl (noOwn_of9 rfl) (by simp; omega) (ei_roll (P := fun a => 0 ≤ a ∧ a < p) p (ea_cons (ev_var rfl) (ea_cons (ev_var rfl) ea_nil)) (by omega) (by omega) fun r a b => ⟨a, b⟩) ?_
          rintro d ⟨a, rfl, ha⟩
          refine fin _ ?_
          unfold KM.FL
          rw [if_neg (by omega), if_neg (by rw [hk]; decide), if_neg (by rw [hk2]; decide)]
          exact ha
    · rintro ys δ' rfl ⟨f, z6, hf, hfl, h6, rfl⟩
      rw [rngD_len] at hf
      refine sx_freeze (i := 5) rfl (noOwn_of9 h6) ?_
      refine sq_asgP (P := fun d => ∃ m : List Int, d = il m ∧ (m.length : Int) < 4 ∧ ∀ a ∈ m, 0 ≤ a ∧ a < p) (ep_rolls 4 h0 h1 (by decide) (by decide) rfl rfl rfl (by simp) (fun _ => rfl) (fun _ => rfl)) ?_
      rintro d ⟨m, rfl, hm, hx⟩
      refine sx_ret (d := wd (f ++ m ++ (if m = [] then [] else [1]))) (ev_cb (ea_cons (ev_op (ev_op (ev_var (d := il f) rfl) (ev_var (d := il m) rfl) (rv_catI (by omega))) (ev_eq (e := il (if m = [] then [] else [1])) (ev_op (ev_lst (ea_cons ev_int ea_nil) (by simp)) (ev_cb (ea_cons (ev_op (ev_var (d := il m) rfl) (ev_eq (e := il []) (ev_lst ea_nil (by simp)) rfl) rv_neI') ea_nil) cv_intb) (rv_rep1 (by split <;> omega) (by split <;> omega))) ?_) (rv_catI ?_)) ea_nil) cv_tuple_l) ?_
      · by_cases hm0 : m = []
        · rw [if_pos hm0, decide_eq_true hm0]
          rfl
        · rw [if_neg hm0, decide_eq_false hm0]
          rfl
      · rw [List.length_append]
        split
        · simp
          omega
        · simp
          omega
      · exact ⟨_, rfl, (hkin _).mpr ⟨f, m, rfl, by omega, by omega, hx, hfl⟩⟩
end
end KD
set_option Elab.async false
set_option linter.all false
set_option maxRecDepth 100000
set_option maxHeartbeats 4000000
namespace KD
open PySem PySem.Spec PyProof.Rows L2
open Evl (Ex Ex.refl Ex.trans Ex.new Ex.mut ex_l ex_t fresh_back)

local macro_rules | `(tactic| walk_at "kr") => `(tactic| first
  | with_reducible exact rv_int | with_reducible exact rv_bool | with_reducible exact rv_eqI | with_reducible exact rv_neI | with_reducible exact rv_eqW | with_reducible exact rv_neW | with_reducible exact rv_isN | with_reducible exact rv_notN
  | with_reducible exact rv_eqI' | with_reducible exact rv_neI' | with_reducible exact rv_eqL | with_reducible exact rv_neL | with_reducible exact rv_ltW | with_reducible exact rv_inI | with_reducible exact rv_niI | with_reducible exact rv_inT | with_reducible exact rv_niT | with_reducible exact rv_eqB | with_reducible exact rv_neB | with_reducible exact rv_eqS | with_reducible exact rv_neS)
local macro_rules | `(tactic| walk_at "kd") => `(tactic| first
  | ((with_reducible apply ev_var); rfl)
  | with_reducible exact ev_int | with_reducible exact ev_bl | with_reducible exact ev_non | with_reducible exact ev_str
  | ((with_reducible apply ev_neg); walk_at "kd")
  | ((with_reducible apply ev_op); walk_at "kd"; walk_at "kd"; walk_at "kr")
  | ((with_reducible apply et_test); walk_at "kd")
  | ((with_reducible apply et_B); walk_at "kd")
  | ((with_reducible apply et_not); walk_at "kd")
  | ((with_reducible apply ev_notV); walk_at "kd")
  | ((with_reducible apply ev_cb); walk_at "kd"; first | with_reducible exact cv_len_w | with_reducible exact cv_len_il | with_reducible exact cv_len_wds | with_reducible exact cv_len_t | with_reducible exact cv_len_l | with_reducible exact cv_tuple_l | with_reducible exact cv_tuple_t | with_reducible exact cv_list_l | with_reducible exact cv_list_t | with_reducible exact cv_len_s | with_reducible exact cv_abs | with_reducible exact cv_int | with_reducible exact cv_intb | with_reducible exact cv_max2 | with_reducible exact cv_min2 | with_reducible exact cv_all)
  | with_reducible exact ea_nil
  | ((with_reducible apply ea_cons); walk_at "kd"; walk_at "kd")
  | ((with_reducible apply ev_tup); walk_at "kd"; (first | decide | (simp; done) | (simp; omega)))
  | ((with_reducible apply ev_lst); walk_at "kd"; (first | decide | (simp; done) | (simp; omega)))
  | ((with_reducible apply ev_sliceW); walk_at "kd"; walk_at "ko"; walk_at "ko")
  | ((with_reducible apply ev_sliceI); walk_at "kd"; walk_at "ko"; walk_at "ko")
  | ((with_reducible apply ev_sliceT); walk_at "kd"; walk_at "ko"; walk_at "ko")
  | ((with_reducible apply ev_sliceL); walk_at "kd"; walk_at "ko"; walk_at "ko")
  | ((with_reducible apply ev_revL); walk_at "kd"))
local macro_rules | `(tactic| walk_at "ko") => `(tactic| first | with_reducible exact op_no | ((with_reducible apply op_so); walk_at "kd"))

section
variable {P : Program} {w : World} {K : PySem.W.Frag} {mg : Str → Option Value} {base : Heap} {C : Addr}

/-- an int or a bool -/
def LetV (d : Dv) : Prop := (∃ i : Int, d = .int i) ∨ ∃ b : Bool, d = .bl b
def isI : Dv → Bool
  | .int _ => true
  | _ => false
def intD : Dv → Bool
  | .int i => decide (-(10 ^ 60) < i) && decide (i < 10 ^ 60)
  | _ => false
def letD (p : Int) (d : Dv) : Bool := intD d && match d with | .int i => decide (-1 ≤ i) && decide (i < p) | _ => false
def areD (p : Int) : Dv → Bool
  | .tup l => decide (l.length ≤ 60) && l.all (letD p)
  | _ => false
def AreP (d : Dv) : Prop := (∃ l, d = .tup l ∧ l.length ≤ 100 ∧ ∀ x ∈ l, LetV x) ∨ ((∀ l, d ≠ .tup l) ∧ ∃ t, tyD d = some t ∧ kitB t "tuple" = some false)
def endsM (u : List Int) : Bool := [[], [-1]].contains u || decide (u.getLastD 1 > 0)
abbrev s_is_whole : Stmt := topS 9
theorem sc_is_whole : FnScope ["value"] ["value"] (defScope s_is_whole) := ⟨rfl, rfl, rfl, by decide +kernel, rfl, by decide +kernel, by decide +kernel⟩
theorem d_is_whole (B : Bl mg) (F : Here K mg "is_whole" s_is_whole ["value"]) :
    Def P w K mg base 1 "is_whole" ["value"] (spF ⟨K, C⟩ (fun d : Dv => [d]) LetV (fun d r => r = .bl (isI d))) := by
  refine def_ok F sc_is_whole (fun _ => rfl) (fun f cdv A outer s H E hr => ⟨_, (have nd := sc_is_whole.nd; (pss_one (ps_ret (pe_and (pe_callB (call_isiX (K := K) rfl) (by rfl) B.b_isinstance (by decide +kernel) (pa_cons (pv 0) (pa_cons (pe_bltn (v := .ty "int") (by rfl) B.b_int (by decide +kernel) rfl) pa_nil))) (pe_one (pe_not (pe_callB (call_isiX (K := K) rfl) (by rfl) B.b_isinstance (by decide +kernel) (pa_cons (pv 0) (pa_cons (pe_bltn (v := .ty "bool") (by rfl) B.b_bool (by decide +kernel) rfl) pa_nil))))))))), fun Ho d hu => ?_⟩)
  show Sx _ _ [.val d] _ _
  rcases hu with ⟨i, rfl⟩ | ⟨b, rfl⟩
  · exact sx_ret (d := .bl (true && !false)) (ev_andV (ev_isi (T := "int") (t := "int") (d := .int i) (ev_var rfl) rfl (by decide +kernel)) fun _ => ev_notV (ev_isi (T := "bool") (t := "int") (d := .int i) (ev_var rfl) rfl (by decide +kernel))) rfl
  · exact sx_ret (d := .bl (true && !true)) (ev_andV (ev_isi (T := "int") (t := "bool") (d := .bl b) (ev_var rfl) rfl (by decide +kernel)) fun _ => ev_notV (ev_isi (T := "bool") (t := "bool") (d := .bl b) (ev_var rfl) rfl (by decide +kernel))) rfl
abbrev spWhole (K : PySem.W.Frag) (C : Addr) : Sp := spF ⟨K, C⟩ (fun d : Dv => [d]) LetV (fun d r => r = .bl (isI d))
abbrev s_is_integer : Stmt := topS 10
theorem sc_is_integer : FnScope ["value"] ["value"] (defScope s_is_integer) := ⟨rfl, rfl, rfl, by decide +kernel, rfl, by decide +kernel, by decide +kernel⟩
theorem d_is_integer (B : Bl mg) (T : Cs K mg C) (F : Here K mg "is_integer" s_is_integer ["value"]) (D_is_whole : Def P w K mg base 1 "is_whole" ["value"] (spWhole K C)) :
    Def P w K mg base 2 "is_integer" ["value"] (spF ⟨K, C⟩ (fun d : Dv => [d]) LetV (fun d r => r = .bl (intD d))) := by
  refine def_ok F sc_is_integer (fun _ => rfl) (fun f cdv A outer s H E hr => ⟨_, (have nd := sc_is_integer.nd; (pss_one (ps_ret (pe_and (pe_def D_is_whole (hr.mono (by decide)) (by rfl) (pa_cons (pv 0) pa_nil)) (pe_one (pe_chain (op_lt) (op_lt) (pe_un un_neg (pe_globR (by rfl) T.c_GREAT)) (pv 0) (pe_globR (by rfl) T.c_GREAT))))))), fun Ho d hu => ?_⟩)
  show Sx _ _ [.val d] _ _
  have hw : Ev ⟨⟨K, C⟩, Ho, H⟩ (tCall (spWhole K C) [] E0 (tCons (tVar 0) tNil)) [.val d] (.bl (isI d)) := ev_call (W := ⟨⟨K, C⟩, Ho, H⟩) d (ea_cons (ev_var rfl) ea_nil) hu fun d h => h
  rcases hu with ⟨i, rfl⟩ | ⟨b, rfl⟩
  · exact sx_ret (d := .bl (true && (decide (-(10 ^ 60) < i) && decide (i < 10 ^ 60)))) (ev_andV hw fun _ => ev_chain (ev_neg ev_int) (ev_var rfl) rv_bool fun _ => ⟨ev_int, rv_bool⟩) rfl
  · exact sx_ret (d := .bl (false && true)) (ev_andV hw fun z => nomatch z) rfl
abbrev spInteger (K : PySem.W.Frag) (C : Addr) : Sp := spF ⟨K, C⟩ (fun d : Dv => [d]) LetV (fun d r => r = .bl (intD d))
abbrev s_is_prime : Stmt := topS 11
theorem sc_is_prime : FnScope ["value"] ["value"] (defScope s_is_prime) := ⟨rfl, rfl, rfl, by decide +kernel, rfl, by decide +kernel, by decide +kernel⟩
theorem d_is_prime (B : Bl mg) (T : Cs K mg C) (F : Here K mg "is_prime" s_is_prime ["value"]) (D_is_whole : Def P w K mg base 1 "is_whole" ["value"] (spWhole K C)) :
    Def P w K mg base 2 "is_prime" ["value"] (spF ⟨K, C⟩ (fun i : Int => [.int i]) (fun _ => True) (fun i r => r = .bl (primes.contains i))) := by
  obtain ⟨pa, hPr, hPq⟩ := T.c_PRIMES
  refine def_ok F sc_is_prime (fun _ => rfl) (fun f cdv A outer s H E hr => ⟨_, (have nd := sc_is_prime.nd; (pss_one (ps_ret (pe_and (pe_def D_is_whole (hr.mono (by decide)) (by rfl) (pa_cons (pv 0) pa_nil)) (pe_one (pe_cmpR (op_in_seq) (pv 0) (pe_globR (by rfl) hPr) (by rfl))))))), fun Ho i hu => ?_⟩)
  show Sx _ _ [.val (.int i)] _ _
  exact sx_ret (d := .bl (true && primes.contains i)) (ev_andV (ev_call (.int i) (ea_cons (ev_var rfl) ea_nil) (.inl ⟨i, rfl⟩) fun d h => h) fun _ => ev_op (ev_var rfl) (ev_constT (w := primes) hPq) rv_inT) rfl
abbrev spPrime (K : PySem.W.Frag) (C : Addr) : Sp := spF ⟨K, C⟩ (fun i : Int => [.int i]) (fun _ => True) (fun i r => r = .bl (primes.contains i))
abbrev s_require_prime : Stmt := topS 18
theorem sc_require_prime : FnScope ["value"] ["value"] (defScope s_require_prime) := ⟨rfl, rfl, rfl, by decide +kernel, rfl, by decide +kernel, by decide +kernel⟩
theorem d_require_prime (B : Bl mg) (T : Cs K mg C) (F : Here K mg "require_prime" s_require_prime ["value"]) (D_is_prime : Def P w K mg base 2 "is_prime" ["value"] (spPrime K C)) :
    Def P w K mg base 3 "require_prime" ["value"] (spF ⟨K, C⟩ (fun i : Int => [.int i]) (fun i => i ∈ primes) (fun _ r => True)) := by
  refine def_ok F sc_require_prime (fun _ => rfl) (fun f cdv A outer s H E hr => ⟨_, (have nd := sc_require_prime.nd; (pss_one (ps_if (pt_not (pt_val (pe_def D_is_prime (hr.mono (by decide)) (by rfl) (pa_cons (pv 0) pa_nil))))
    (pss_one ps_never)
    pss_nil))), fun Ho i hu => ?_⟩)
  show Sx _ _ [.val (.int i)] _ _
  refine sx_if (k := !(primes.contains i)) (et_not (et_B (ev_call i (ea_cons (ev_var rfl) ea_nil) trivial fun d h => h))) (fun hk => ?_) (fun _ => sx_next trivial)
  have h2 : primes.contains i = true := List.contains_iff_mem.mpr hu
  rw [h2] at hk
  cases hk
abbrev s_is_letter : Stmt := topS 19
theorem sc_is_letter : FnScope ["prime", "value"] ["prime", "value"] (defScope s_is_letter) := ⟨rfl, rfl, rfl, by decide +kernel, rfl, by decide +kernel, by decide +kernel⟩
theorem d_is_letter (B : Bl mg) (T : Cs K mg C) (F : Here K mg "is_letter" s_is_letter ["prime", "value"]) (D_is_integer : Def P w K mg base 2 "is_integer" ["value"] (spInteger K C)) :
    Def P w K mg base 3 "is_letter" ["prime", "value"] (spF ⟨K, C⟩ (fun a : Int × Dv => [.int a.1, a.2]) (fun a => LetV a.2) (fun a r => r = .bl (letD a.1 a.2))) := by
  refine def_ok F sc_is_letter (fun _ => rfl) (fun f cdv A outer s H E hr => ⟨_, (have nd := sc_is_letter.nd; (pss_one (ps_ret (pe_and (pe_def D_is_integer (hr.mono (by decide)) (by rfl) (pa_cons (pv 1) pa_nil)) (pe_one (pe_chain (op_le) (op_lt) (pe_globR (by rfl) T.c_TURN) (pv 1) (pv 0))))))), fun Ho a hu => ?_⟩)
  obtain ⟨p, d⟩ := a
  show Sx _ _ [.val (.int p), .val d] _ _
  have hw : Ev ⟨⟨K, C⟩, Ho, H⟩ (tCall (spInteger K C) [] E0 (tCons (tVar 1) tNil)) [.val (.int p), .val d] (.bl (intD d)) := ev_call (W := ⟨⟨K, C⟩, Ho, H⟩) d (ea_cons (ev_var rfl) ea_nil) hu fun d h => h
  rcases hu with ⟨i, rfl⟩ | ⟨b, rfl⟩
  · exact sx_ret (d := .bl (intD (.int i) && (decide (-1 ≤ i) && decide (i < p)))) (ev_andV hw fun _ => ev_chain ev_int (ev_var rfl) rv_bool fun _ => ⟨ev_var rfl, rv_bool⟩) rfl
  · exact sx_ret (d := .bl (false && true)) (ev_andV hw fun z => nomatch z) rfl
abbrev spLetterD (K : PySem.W.Frag) (C : Addr) : Sp := spF ⟨K, C⟩ (fun a : Int × Dv => [.int a.1, a.2]) (fun a => LetV a.2) (fun a r => r = .bl (letD a.1 a.2))
abbrev s_are_letters : Stmt := topS 20
theorem sc_are_letters : FnScope ["prime", "value", "letter"] ["prime", "value"] (defScope s_are_letters) := ⟨rfl, rfl, rfl, by decide +kernel, rfl, by decide +kernel, by decide +kernel⟩
theorem d_are_letters (B : Bl mg) (T : Cs K mg C) (F : Here K mg "are_letters" s_are_letters ["prime", "value"]) (D_is_letter : Def P w K mg base 3 "is_letter" ["prime", "value"] (spLetterD K C)) :
    Def P w K mg base 4 "are_letters" ["prime", "value"] (spF ⟨K, C⟩ (fun a : Int × Dv => [.int a.1, a.2]) (fun a => AreP a.2) (fun a r => r = .bl (areD a.1 a.2))) := by
  refine def_ok F sc_are_letters (fun _ => rfl) (fun f cdv A outer s H E hr => ⟨_, (have nd := sc_are_letters.nd; (pss_cons (ps_if (PW.pt (pw_or (pt_not (pt_val (pe_callB (call_isiX (K := K) rfl) (by rfl) B.b_isinstance (by decide +kernel) (pa_cons (pv 1) (pa_cons (pe_bltn (v := .ty "tuple") (by rfl) B.b_tuple (by decide +kernel) rfl) pa_nil))))) (pw_or1 (pt_cmpR (op_gt) (pe_callB call_len_seq (by rfl) B.b_len (by decide +kernel) (pa_cons (pv 1) pa_nil)) (pe_globR (by rfl) T.c_MAX_LETTERS) (nomark _)))))
    (pss_one (ps_ret pe_bl))
    pss_nil)
    (pss_one (ps_ret (pe_callB (cr_all rfl) (by rfl) B.b_all (by decide +kernel) (pa_cons (pe_lc (own := [("letter", 2)]) (g := gName 2) (tt := tYes) rfl nd (pi_tup (pv 1)) (blkOk_by (own := [("letter", 2)]) (N := ["prime", "value", "letter"]) (sc := defScope s_are_letters) (by decide +kernel)) (fun _ _ _ _ _ => pg_name (i := 2) nd rfl (Or.inl rfl)) (fun _ _ _ _ _ => pts_nil) (fun _ _ _ _ _ => (pe_def D_is_letter (hr.mono (by decide)) (by rfl) (pa_cons (pv 0) (pa_cons (pv 2) pa_nil))))) pa_nil)))))), fun Ho a hu => ?_⟩)
  obtain ⟨p, d⟩ := a
  dsimp only [cxK] at hu ⊢
  show Sx _ _ [.val (.int p), .val d, .non] _ _
  rcases hu with ⟨l, rfl, hl, hx⟩ | ⟨hd, t, ht, hk⟩
  · refine sq_if (k := !true || decide ((l.length : Int) > 60)) (et_or (et_not (et_B (ev_isi (T := "tuple") (ev_var (d := .tup l) rfl) rfl (by decide +kernel)))) fun _ => et_test (ev_op (ev_cb (ea_cons (ev_var rfl) ea_nil) cv_len_t) ev_int rv_bool)) (fun hk => ?_) (fun hk => ?_)
    · refine sq_ret ev_bl ?_
      have h60 : ¬ l.length ≤ 60 := by
        have := of_decide_eq_true (show decide ((l.length : Int) > 60) = true from hk)
        omega
      rw [areD, decide_eq_false h60]
      rfl
    · have h60 : l.length ≤ 60 := by
        have := of_decide_eq_false (show decide ((l.length : Int) > 60) = false from hk)
        omega
      refine sx_nextS (sx_ret (d := .bl ((l.map (letD p)).all id)) (ev_cb (ea_cons (ev_eq (e := .lst ((l.map (letD p)).map Dv.bl)) (ev_lcA (js := [2]) (fun d => .bl (letD p d)) (iv_tup (ev_var (d := .tup l) rfl)) (by omega) (by simp) fun d hd => ⟨_, tg_name, ev_call (p, d) (ea_cons (ev_var rfl) (ea_cons (ev_var rfl) ea_nil)) (hx d hd) fun d h => h⟩) ?_) ea_nil) cv_all) ?_)
      · rw [List.map_map]
        rfl
      · rw [areD, decide_eq_true h60, List.all_map]
        rfl
  · refine sq_if (k := !false || false) (et_or (et_not (et_B (ev_isi (T := "tuple") (ev_var (d := d) rfl) ht hk))) fun z => nomatch z) (fun _ => sq_ret ev_bl ?_) (fun z => nomatch z)
    cases d with
    | tup l => exact absurd rfl (hd l)
    | _ => rfl
abbrev s_ends_as_word : Stmt := topS 21
theorem sc_ends_as_word : FnScope ["point"] ["point"] (defScope s_ends_as_word) := ⟨rfl, rfl, rfl, by decide +kernel, rfl, by decide +kernel, by decide +kernel⟩
theorem d_ends_as_word (B : Bl mg) (T : Cs K mg C) (F : Here K mg "ends_as_word" s_ends_as_word ["point"]) :
    Def P w K mg base 1 "ends_as_word" ["point"] (spF ⟨K, C⟩ (fun u : List Int => [wd u]) (fun _ => True) (fun u r => r = .bl (endsM u))) := by
  refine def_ok F sc_ends_as_word (fun _ => rfl) (fun f cdv A outer s H E hr => ⟨_, (have nd := sc_ends_as_word.nd; (pss_one (ps_ret (pe_or (pe_cmpR (op_inU (hu65 hr)) (pv 0) (pe_tup (pa_cons (pe_tup pa_nil) (pa_cons (pe_tup (pa_cons (pe_globR (by rfl) T.c_TURN) pa_nil)) pa_nil))) (by rfl)) (pe_one (pe_cmpR (op_gt) (pe_ix ix_tup (pv 0) (pe_un un_neg pe_int) (fun _ _ => rfl)) pe_int (nomark _))))))), fun Ho u hu => ?_⟩)
  dsimp only [cxK]
  show Sx _ _ [.val (wd u)] _ _
  refine sx_ret (d := .bl ([[], [-1]].contains u || decide (u.getLastD 1 > 0))) (ev_orV (ev_op (ev_var rfl) (ev_eq (e := .tup ([[], [-1]].map wd)) (ev_tup (ea_cons (ev_tup ea_nil (by simp)) (ea_cons (ev_tup (ea_cons ev_int ea_nil) (by simp)) ea_nil)) (by simp)) rfl) rv_inU) fun hc => ?_) rfl
  rcases List.eq_nil_or_concat u with rfl | ⟨xs, x, rfl⟩
  · exact absurd hc (by decide)
  · rw [List.concat_eq_append]
    have e : (xs ++ [x]).getLastD 1 = x := by simp
    rw [e]
    exact ev_op (ev_op (ev_var rfl) (ev_neg ev_int) (rv_ixW (atI_last _ _))) ev_int rv_bool
abbrev s_letters_text : Stmt := topS 22
theorem sc_letters_text : FnScope ["point", "letter"] ["point"] (defScope s_letters_text) := ⟨rfl, rfl, rfl, by decide +kernel, rfl, by decide +kernel, by decide +kernel⟩
theorem d_letters_text (B : Bl mg) (T : Cs K mg C) (F : Here K mg "letters_text" s_letters_text ["point"]) :
    Def P w K mg base 1 "letters_text" ["point"] (spF ⟨K, C⟩ (fun u : List Int => [wd u]) (fun u => u.length ≤ 60 ∧ ∀ a ∈ u, -1 ≤ a ∧ a < 31) (fun u r => ShortS 2000 r)) := by
  refine def_ok F sc_letters_text (fun _ => rfl) (fun f cdv A outer s H E hr => ⟨_, (have nd := sc_letters_text.nd; (pss_cons (ps_if (pt_cmpR (op_eqD (hu64 hr)) (pv 0) (pe_tup pa_nil) (nomark _))
    (pss_one (ps_ret (pe_globR (by rfl) T.c_ORIGIN_TEXT)))
    pss_nil)
    (pss_one (ps_ret (pe_join (pe_globR (by rfl) T.c_BLANK) (pe_lc (own := [("letter", 1)]) (g := gName 1) (tt := tYes) rfl nd (pi_tup (pv 0)) (blkOk_by (own := [("letter", 1)]) (N := ["point", "letter"]) (sc := defScope s_letters_text) (by decide +kernel)) (fun _ _ _ _ _ => pg_name (i := 1) nd rfl (Or.inl rfl)) (fun _ _ _ _ _ => pts_nil) (fun _ _ _ _ _ => (pe_ifExp (pt_cmpR (op_eq) (pv 1) (pe_globR (by rfl) T.c_TURN) (nomark _)) (pe_globR (by rfl) T.c_TURN_TEXT) (pe_callTy call_str_int (by rfl) B.b_str (by decide +kernel) (pa_cons (pv 1) pa_nil)))))))))), fun Ho u hu => ?_⟩)
  obtain ⟨hl, hx⟩ := hu
  dsimp only [cxK]
  show Sx _ _ [.val (wd u), .non] _ _
  refine sq_if (k := decide (u = [])) (et_test (ev_op (ev_var rfl) (ev_eq (e := wd []) (ev_tup ea_nil (by simp)) rfl) rv_eqW)) (fun _ => sq_ret (d := .str ".") ev_str ⟨_, rfl, by decide⟩) (fun _ => ?_)
  refine sx_nextS (sx_retP (P := ShortS 2000) (ep_join (by decide) ev_str (EP.mono (ep_lcA (js := [1]) (P := ShortS 10) (Py := fun ys => ys = u.map Dv.int) (iv_tup (ev_var (d := wd u) rfl)) (fun ys e => by subst e; simp; omega) (by simp) fun ys e d hd => ?_) ?_)) fun d h => h)
  · subst e
    obtain ⟨a, ha, rfl⟩ := List.mem_map.mp hd
    have hab := hx a ha
    refine ⟨_, tg_name, ep_if (Pt := fun b => b = decide (a = -1)) (et_test (ev_op (ev_var rfl) ev_int rv_eqI)) (fun _ => EP.mono (ev_str (i := "t")) fun d e => ⟨"t", e, by decide⟩) (fun hk => ?_)⟩
    have hne : ¬ a = -1 := of_decide_eq_false (show false = _ from hk).symm
    exact ep_strInt (ev_var rfl) (by omega) (by omega)
  · rintro z ⟨ys, l, rfl, rfl, hll, hxx⟩
    rw [List.length_map] at hll
    exact ⟨l, rfl, by omega, hxx⟩
abbrev s_require_branch : Stmt := topS 27
theorem sc_require_branch : FnScope ["value"] ["value"] (defScope s_require_branch) := ⟨rfl, rfl, rfl, by decide +kernel, rfl, by decide +kernel, by decide +kernel⟩
theorem d_require_branch (B : Bl mg) (T : Cs K mg C) (Q : Bc K C) (F : Here K mg "require_branch" s_require_branch ["value"]) :
    Def P w K mg base 1 "require_branch" ["value"] (spF ⟨K, C⟩ (fun a : Int × List Int => [.br a.1 a.2]) (fun _ => True) (fun _ _ => True)) := by
  refine def_ok F sc_require_branch (fun _ => rfl) (fun f cdv A outer s H E hr => ⟨_, (have nd := sc_require_branch.nd; (pss_one (ps_if (pt_not (pt_val (pe_callB (call_isiSlX (K := K) rfl (.ref C)) (by rfl) B.b_isinstance (by decide +kernel) (pa_cons (pv 0) (pa_cons (pe_glob (v := .ref C) (by rfl) T.c_Branch rfl) pa_nil)))))
    (pss_one ps_never)
    pss_nil))), fun Ho a hu => ?_⟩)
  obtain ⟨p, u⟩ := a
  dsimp only [cxK]
  show Sx _ _ [.val (.br p u)] _ _
  exact sx_if (k := !true) (et_not (et_B (ev_isiBr (W := ⟨⟨K, C⟩, Ho, H⟩) Q (ev_var rfl)))) (fun z => nomatch z) (fun _ => sx_next trivial)
end
end KD
set_option Elab.async false
set_option linter.all false
set_option maxRecDepth 100000
set_option maxHeartbeats 4000000
namespace KD
open PySem PySem.Spec PyProof.Rows L2
open Evl (Ex Ex.refl Ex.trans Ex.new Ex.mut ex_l ex_t fresh_back)

local macro_rules | `(tactic| walk_at "kr") => `(tactic| first
  | with_reducible exact rv_int | with_reducible exact rv_bool | with_reducible exact rv_eqI | with_reducible exact rv_neI | with_reducible exact rv_eqW | with_reducible exact rv_neW | with_reducible exact rv_isN | with_reducible exact rv_notN
  | with_reducible exact rv_eqI' | with_reducible exact rv_neI' | with_reducible exact rv_eqL | with_reducible exact rv_neL | with_reducible exact rv_ltW | with_reducible exact rv_inI | with_reducible exact rv_niI | with_reducible exact rv_inT | with_reducible exact rv_niT | with_reducible exact rv_eqB | with_reducible exact rv_neB | with_reducible exact rv_eqS | with_reducible exact rv_neS)
local macro_rules | `(tactic| walk_at "kd") => `(tactic| first
  | ((with_reducible apply ev_var); rfl)
  | with_reducible exact ev_int | with_reducible exact ev_bl | with_reducible exact ev_non | with_reducible exact ev_str
  | ((with_reducible apply ev_neg); walk_at "kd")
  | ((with_reducible apply ev_op); walk_at "kd"; walk_at "kd"; walk_at "kr")
  | ((with_reducible apply et_test); walk_at "kd")
  | ((with_reducible apply et_B); walk_at "kd")
  | ((with_reducible apply et_not); walk_at "kd")
  | ((with_reducible apply ev_notV); walk_at "kd")
  | ((with_reducible apply ev_cb); walk_at "kd"; first | with_reducible exact cv_len_w | with_reducible exact cv_len_il | with_reducible exact cv_len_wds | with_reducible exact cv_len_t | with_reducible exact cv_len_l | with_reducible exact cv_tuple_l | with_reducible exact cv_tuple_t | with_reducible exact cv_list_l | with_reducible exact cv_list_t | with_reducible exact cv_len_s | with_reducible exact cv_abs | with_reducible exact cv_int | with_reducible exact cv_intb | with_reducible exact cv_max2 | with_reducible exact cv_min2 | with_reducible exact cv_all)
  | with_reducible exact ea_nil
  | ((with_reducible apply ea_cons); walk_at "kd"; walk_at "kd")
  | ((with_reducible apply ev_tup); walk_at "kd"; (first | decide | (simp; done) | (simp; omega)))
  | ((with_reducible apply ev_lst); walk_at "kd"; (first | decide | (simp; done) | (simp; omega)))
  | ((with_reducible apply ev_sliceW); walk_at "kd"; walk_at "ko"; walk_at "ko")
  | ((with_reducible apply ev_sliceI); walk_at "kd"; walk_at "ko"; walk_at "ko")
  | ((with_reducible apply ev_sliceT); walk_at "kd"; walk_at "ko"; walk_at "ko")
  | ((with_reducible apply ev_sliceL); walk_at "kd"; walk_at "ko"; walk_at "ko")
  | ((with_reducible apply ev_revL); walk_at "kd"))
local macro_rules | `(tactic| walk_at "ko") => `(tactic| first | with_reducible exact op_no | ((with_reducible apply op_so); walk_at "kd"))

section
variable {P : Program} {w : World} {K : PySem.W.Frag} {mg : Str → Option Value} {base : Heap} {C : Addr}

def fxt : KM.Fm → Str
  | .fixed => "fixed" | .live => "not zero" | .free => "free" | .first => "first"
def fxs (l : List KM.Fm) : List Dv := l.map fun f => .str (fxt f)
theorem fxt_eq (f g : KM.Fm) : decide (fxt f = fxt g) = decide (f = g) := by
  cases f <;> cases g <;> decide
theorem fxs_at {l : List KM.Fm} {i : Nat} {f : KM.Fm} (h : l[i]? = some f) : atI (fxs l) (i : Int) = some (.str (fxt f)) := by
  refine atI_nat ?_
  unfold fxs
  rw [List.getElem?_map, h]
  rfl
theorem noOwn_of4 {a : Dv} {ds : List Dv} {z2 z3 : Sl} (h2 : z2.isOwn = false) (h3 : z3.isOwn = false) : noOwn [.val a, .own ds, z2, z3] 1 = true := by
  unfold noOwn
  show (!(false || (false || (z2.isOwn || (z3.isOwn || false))))) = true
  rw [h2, h3]
  rfl
abbrev s_forms_of : Stmt := topS 33
theorem sc_forms_of : FnScope ["word", "found", "at", "letter"] ["word"] (defScope s_forms_of) := ⟨rfl, rfl, rfl, by decide +kernel, rfl, by decide +kernel, by decide +kernel⟩
theorem d_forms_of (B : Bl mg) (T : Cs K mg C) (F : Here K mg "forms_of" s_forms_of ["word"]) :
    Def P w K mg base 1 "forms_of" ["word"] (spF ⟨K, C⟩ (fun u : List Int => [wd u]) (fun u => u.length ≤ 100) (fun u r => r = .lst (fxs (KM.formsM u)))) := by
  refine def_ok F sc_forms_of (fun _ => rfl) (fun f cdv A outer s H E hr => ⟨_, (have nd := sc_forms_of.nd; (pss_cons (ps_set (i := 1) nd rfl (.inl rfl) (pe_lst pa_nil))
    (pss_cons (ps_for PassesOwn.never rfl (pi_enumT (by rfl) B.b_enumerate (pa_cons (pv 0) pa_nil)) (pg_tup rfl (pgs_cons (pg_name (i := 2) nd rfl (Or.inl rfl)) (pgs_cons (pg_name (i := 3) nd rfl (Or.inl rfl)) pgs_nil)))
    (pss_one (ps_if (pt_cmpR (op_eq) (pv 2) pe_int (nomark _))
    (pss_one (ps_expr (pe_bm PySem.F.plainAttrs_list PySem.F.slot_list_append PySem.F.type_list_append mt_append (pv 1) (pa_cons (pe_globR (by rfl) T.c_FIRST) pa_nil))))
    (pss_one (ps_if (pt_cmpR (op_eq) (pv 3) (pe_globR (by rfl) T.c_TURN) (nomark _))
    (pss_one (ps_expr (pe_bm PySem.F.plainAttrs_list PySem.F.slot_list_append PySem.F.type_list_append mt_append (pv 1) (pa_cons (pe_globR (by rfl) T.c_FIXED) pa_nil))))
    (pss_one (ps_if (pt_cmpR (op_eq) (pe_ix ix_list (pv 1) (pe_un un_neg pe_int) (fun _ _ => rfl)) (pe_globR (by rfl) T.c_FIXED) (nomark _))
    (pss_one (ps_expr (pe_bm PySem.F.plainAttrs_list PySem.F.slot_list_append PySem.F.type_list_append mt_append (pv 1) (pa_cons (pe_ifExp (pt_cmpR (op_eq) (pv 3) pe_int (nomark _)) (pe_globR (by rfl) T.c_FIXED) (pe_globR (by rfl) T.c_LIVE)) pa_nil))))
    (pss_one (ps_expr (pe_bm PySem.F.plainAttrs_list PySem.F.slot_list_append PySem.F.type_list_append mt_append (pv 1) (pa_cons (pe_globR (by rfl) T.c_FREE) pa_nil)))))))))))
    (pss_one (ps_ret (pv 1)))))), fun Ho u hu => ?_⟩)
  dsimp only [cxK]
  show Sx _ _ [.val (wd u), .non, .non, .non] _ _
  refine sq_own (ds := []) ea_nil (by decide) rfl ?_
  refine sq_for [2, 3] (Py := fun ys => ys = enumD 0 (u.map Dv.int)) (iv_enumT (by walk_at "kd")) (fun _ i δ => ∃ z2 z3 : Sl, z2.isOwn = false ∧ z3.isOwn = false ∧ δ = [.val (wd u), .own (fxs (KM.formsM (u.take i))), z2, z3]) (fun _ _ => ⟨.non, .non, rfl, rfl, rfl⟩) ?_ ?_
  · rintro ys i d δ' rfl hd ⟨z2, z3, h2, h3, rfl⟩
    obtain ⟨d0, hd0, rfl⟩ := enumD_get hd
    obtain ⟨a, ha, rfl⟩ : ∃ a, u[i]? = some a ∧ d0 = .int a := by
      rw [List.getElem?_map] at hd0
      cases e : u[i]? with
      | none => rw [e] at hd0; cases hd0
      | some p => rw [e] at hd0; exact ⟨p, rfl, (Option.some.inj hd0).symm⟩
    have hi : i < u.length := (List.getElem?_eq_some_iff.mp ha).1
    have hz : (0 + i : Nat) = i := Nat.zero_add i
    rw [hz]
    have hnx : KM.formsM (u.take (i + 1)) = KM.formsM (u.take i) ++ [KM.stepF (KM.formsM (u.take i)).getLast? a] := by
      rw [List.take_add_one, ha]
      exact KM.formsM_snoc _ _
    have hfl : (KM.formsM (u.take i)).length = i := by
      rw [KM.formsM_len, List.length_take]
      omega
    refine ⟨_, tg_pair, ?_⟩
    rw [hnx]
    generalize KM.formsM (u.take i) = fs at hfl
    have hlt : (fxs fs).length < 100000 := by
      unfold fxs
      rw [List.length_map]
      omega
    have fin : ∀ {te : TE} {N : List Sl → Prop} {R : Dv → Prop}, Ev ⟨⟨K, C⟩, Ho, H⟩ te [.val (wd u), .own (fxs fs), .val (.int i), .val (.int a)] (.str (fxt (KM.stepF fs.getLast? a))) →
        (∀ δ, δ = [.val (wd u), .own (fxs (fs ++ [KM.stepF fs.getLast? a])), .val (.int i), .val (.int a)] → N δ) →
        Sx ⟨⟨K, C⟩, Ho, H⟩ (tDrop (tBM K "list" rAppend (tVar 1) (tCons te tNil))) [.val (wd u), .own (fxs fs), .val (.int i), .val (.int a)] N R := fun he hk =>
      sx_app (i := 1) rfl rfl rfl hlt he (fun d e => by
        subst e
        refine hk _ ?_
        unfold fxs
        rw [List.map_append]
        rfl)
    have done : ∀ δ, δ = [Sl.val (wd u), .own (fxs (fs ++ [KM.stepF fs.getLast? a])), .val (.int i), .val (.int a)] → ∃ z2 z3 : Sl, z2.isOwn = false ∧ z3.isOwn = false ∧ δ = [.val (wd u), .own (fxs (fs ++ [KM.stepF fs.getLast? a])), z2, z3] := fun δ e => ⟨_, _, rfl, rfl, e⟩
    refine sx_if (k := decide ((i : Int) = 0)) (et_test (ev_op (ev_var rfl) ev_int rv_eqI)) (fun hk => fin ?_ done) (fun hk => ?_)
    · have h0 : i = 0 := by
        have := of_decide_eq_true hk
        omega
      have hn : fs = [] := List.eq_nil_of_length_eq_zero (by omega)
      subst hn
      exact ev_str
    · have h0 : ¬ i = 0 := by
        have := of_decide_eq_false hk
        omega
      obtain ⟨xs, x, rfl⟩ : ∃ xs x, fs = xs ++ [x] := by
        rcases List.eq_nil_or_concat fs with rfl | ⟨xs, x, e⟩
        · exact absurd hfl (by simp; omega)
        · exact ⟨xs, x, by rw [e, List.concat_eq_append]⟩
      have hs : KM.stepF (xs ++ [x]).getLast? a = if a = -1 then .fixed else if x = .fixed then (if a = 0 then .fixed else .live) else .free := by
        rw [List.getLast?_concat]
        rfl
      have hat : atI (fxs (xs ++ [x])) (-1) = some (.str (fxt x)) := by
        unfold fxs
        rw [List.map_append]
        exact atI_last _ _
      refine sx_if (k := decide (a = -1)) (et_test (ev_op (ev_var rfl) ev_int rv_eqI)) (fun hk1 => fin ?_ done) (fun hk1 => ?_)
      · rw [hs, if_pos (of_decide_eq_true hk1)]
        exact ev_str
      · refine sx_if (k := decide (fxt x = fxt .fixed)) (et_test (ev_op (ev_ixOwn (i := -1) rfl (ev_neg ev_int) hat) ev_str rv_eqS)) (fun hk2 => fin ?_ done) (fun hk2 => fin ?_ done)
        · rw [fxt_eq] at hk2
          rw [hs, if_neg (of_decide_eq_false hk1), if_pos (of_decide_eq_true hk2)]
          refine ep_if (Pt := fun b => b = decide (a = 0)) (et_test (ev_op (ev_var rfl) ev_int rv_eqI)) (fun hk3 => ?_) (fun hk3 => ?_)
          · rw [if_pos (of_decide_eq_true (show true = _ from hk3).symm)]
            exact ev_str
          · rw [if_neg (of_decide_eq_false (show false = _ from hk3).symm)]
            exact ev_str
        · rw [fxt_eq] at hk2
          rw [hs, if_neg (of_decide_eq_false hk1), if_neg (of_decide_eq_false hk2)]
          exact ev_str
  · rintro ys δ' rfl ⟨z2, z3, h2, h3, rfl⟩
    refine sx_freeze (i := 1) rfl (noOwn_of4 h2 h3) (sx_ret (ev_var rfl) ?_)
    rw [enumD_len, List.length_map, List.take_length]
abbrev s_least_letter : Stmt := topS 34
theorem sc_least_letter : FnScope ["form", "letter"] ["form", "letter"] (defScope s_least_letter) := ⟨rfl, rfl, rfl, by decide +kernel, rfl, by decide +kernel, by decide +kernel⟩
theorem d_least_letter (B : Bl mg) (T : Cs K mg C) (F : Here K mg "least_letter" s_least_letter ["form", "letter"]) :
    Def P w K mg base 1 "least_letter" ["form", "letter"] (spF ⟨K, C⟩ (fun a : KM.Fm × Int => [.str (fxt a.1), .int a.2]) (fun _ => True) (fun a r => r = .int (KM.leastM a.1 a.2))) := by
  refine def_ok F sc_least_letter (fun _ => rfl) (fun f cdv A outer s H E hr => ⟨_, (have nd := sc_least_letter.nd; (pss_cons (ps_if (pt_cmpR (op_eq) (pv 0) (pe_globR (by rfl) T.c_FIRST) (nomark _))
    (pss_one (ps_ret (pe_globR (by rfl) T.c_TURN)))
    pss_nil)
    (pss_cons (ps_if (pt_cmpR (op_eq) (pv 0) (pe_globR (by rfl) T.c_FIXED) (nomark _))
    (pss_one (ps_ret (pv 1)))
    pss_nil)
    (pss_one (ps_ret (pe_ifExp (pt_cmpR (op_eq) (pv 0) (pe_globR (by rfl) T.c_LIVE) (nomark _)) pe_int pe_int)))))), fun Ho a hu => ?_⟩)
  obtain ⟨g, a⟩ := a
  dsimp only [cxK]
  show Sx _ _ [.val (.str (fxt g)), .val (.int a)] _ _
  refine sq_if (k := decide (fxt g = fxt .first)) (et_test (ev_op (ev_var rfl) ev_str rv_eqS)) (fun hk => ?_) (fun hk => ?_)
  · rw [fxt_eq] at hk
    have e := of_decide_eq_true hk
    subst e
    exact sq_ret ev_int rfl
  · rw [fxt_eq] at hk
    have e1 := of_decide_eq_false hk
    refine sx_nextS (sq_if (k := decide (fxt g = fxt .fixed)) (et_test (ev_op (ev_var rfl) ev_str rv_eqS)) (fun hk => ?_) (fun hk => ?_))
    · rw [fxt_eq] at hk
      have e := of_decide_eq_true hk
      subst e
      exact sq_ret (ev_var rfl) rfl
    · rw [fxt_eq] at hk
      have e2 := of_decide_eq_false hk
      refine sx_nextS (sx_retP (P := fun d => d = .int (KM.leastM g a)) (ep_if (Pt := fun b => b = decide (fxt g = fxt .live)) (et_test (ev_op (ev_var rfl) ev_str rv_eqS)) (fun hk => ?_) (fun hk => ?_)) fun d h => h)
      · have hk := (show true = _ from hk).symm
        rw [fxt_eq] at hk
        have e := of_decide_eq_true hk
        subst e
        exact ev_int
      · have hk := (show false = _ from hk).symm
        rw [fxt_eq] at hk
        have e3 := of_decide_eq_false hk
        cases g with
        | free => exact ev_int
        | fixed => exact absurd rfl e2
        | live => exact absurd rfl e3
        | first => exact absurd rfl e1
end
end KD
set_option Elab.async false
set_option linter.all false
set_option maxRecDepth 100000
set_option maxHeartbeats 4000000
namespace KD
open PySem PySem.Spec PyProof.Rows L2
open Evl (Ex Ex.refl Ex.trans Ex.new Ex.mut ex_l ex_t fresh_back)

local macro_rules | `(tactic| walk_at "kr") => `(tactic| first
  | with_reducible exact rv_int | with_reducible exact rv_bool | with_reducible exact rv_eqI | with_reducible exact rv_neI | with_reducible exact rv_eqW | with_reducible exact rv_neW | with_reducible exact rv_isN | with_reducible exact rv_notN
  | with_reducible exact rv_eqI' | with_reducible exact rv_neI' | with_reducible exact rv_eqL | with_reducible exact rv_neL | with_reducible exact rv_ltW | with_reducible exact rv_inI | with_reducible exact rv_niI | with_reducible exact rv_inT | with_reducible exact rv_niT | with_reducible exact rv_eqB | with_reducible exact rv_neB | with_reducible exact rv_eqS | with_reducible exact rv_neS)
local macro_rules | `(tactic| walk_at "kd") => `(tactic| first
  | ((with_reducible apply ev_var); rfl)
  | with_reducible exact ev_int | with_reducible exact ev_bl | with_reducible exact ev_non | with_reducible exact ev_str
  | ((with_reducible apply ev_neg); walk_at "kd")
  | ((with_reducible apply ev_op); walk_at "kd"; walk_at "kd"; walk_at "kr")
  | ((with_reducible apply et_test); walk_at "kd")
  | ((with_reducible apply et_B); walk_at "kd")
  | ((with_reducible apply et_not); walk_at "kd")
  | ((with_reducible apply ev_notV); walk_at "kd")
  | ((with_reducible apply ev_cb); walk_at "kd"; first | with_reducible exact cv_len_w | with_reducible exact cv_len_il | with_reducible exact cv_len_wds | with_reducible exact cv_len_t | with_reducible exact cv_len_l | with_reducible exact cv_tuple_l | with_reducible exact cv_tuple_t | with_reducible exact cv_list_l | with_reducible exact cv_list_t | with_reducible exact cv_len_s | with_reducible exact cv_abs | with_reducible exact cv_int | with_reducible exact cv_intb | with_reducible exact cv_max2 | with_reducible exact cv_min2 | with_reducible exact cv_all)
  | with_reducible exact ea_nil
  | ((with_reducible apply ea_cons); walk_at "kd"; walk_at "kd")
  | ((with_reducible apply ev_tup); walk_at "kd"; (first | decide | (simp; done) | (simp; omega)))
  | ((with_reducible apply ev_lst); walk_at "kd"; (first | decide | (simp; done) | (simp; omega)))
  | ((with_reducible apply ev_sliceW); walk_at "kd"; walk_at "ko"; walk_at "ko")
  | ((with_reducible apply ev_sliceI); walk_at "kd"; walk_at "ko"; walk_at "ko")
  | ((with_reducible apply ev_sliceT); walk_at "kd"; walk_at "ko"; walk_at "ko")
  | ((with_reducible apply ev_sliceL); walk_at "kd"; walk_at "ko"; walk_at "ko")
  | ((with_reducible apply ev_revL); walk_at "kd"))
local macro_rules | `(tactic| walk_at "ko") => `(tactic| first | with_reducible exact op_no | ((with_reducible apply op_so); walk_at "kd"))

section
variable {P : Program} {w : World} {K : PySem.W.Frag} {mg : Str → Option Value} {base : Heap} {C : Addr}

open SlX
def unf (x : Str) : KM.Fm := if x = "fixed" then .fixed else if x = "not zero" then .live else if x = "free" then .free else .first
theorem unf_fxt (f : KM.Fm) : unf (fxt f) = f := by cases f <;> decide
def leastE : Dv → Dv
  | .tup [.str x, .int a] => .int (KM.leastM (unf x) a)
  | d => d
theorem zip_least : ∀ (l : List KM.Fm) (u : List Int), (zipD (fxs l) (u.map Dv.int)).map leastE = (List.zipWith KM.leastM l u).map Dv.int
  | [], _ => by
    unfold fxs
    rw [List.zipWith_nil_left]
    rfl
  | _ :: _, [] => rfl
  | f :: l, a :: u => by
    show leastE (.tup [.str (fxt f), .int a]) :: (zipD (fxs l) (u.map Dv.int)).map leastE = _
    rw [zip_least l u, List.zipWith_cons_cons, List.map_cons]
    show Dv.int (KM.leastM (unf (fxt f)) a) :: _ = _
    rw [unf_fxt]
theorem zipD_item : ∀ (l : List KM.Fm) (u : List Int) {d : Dv}, d ∈ zipD (fxs l) (u.map Dv.int) → ∃ f a, d = .tup [.str (fxt f), .int a]
  | [], _, d, h => by
    have h' : d ∈ zipD [] _ := h
    unfold zipD at h'
    cases h'
  | _ :: _, [], d, h => by cases h
  | f :: l, a :: u, d, h => by
    rcases List.mem_cons.mp (show d ∈ .tup [.str (fxt f), .int a] :: zipD (fxs l) (u.map Dv.int) from h) with rfl | h
    · exact ⟨f, a, rfl⟩
    · exact zipD_item l u h
abbrev s_kind_in : Stmt := topS 35
theorem sc_kind_in : FnScope ["word", "forms", "size", "form", "letter"] ["word"] (defScope s_kind_in) := ⟨rfl, rfl, rfl, by decide +kernel, rfl, by decide +kernel, by decide +kernel⟩
theorem d_kind_in (B : Bl mg) (T : Cs K mg C) (F : Here K mg "kind_in" s_kind_in ["word"])
    (D_forms_of : Def P w K mg base 1 "forms_of" ["word"] (spF ⟨K, C⟩ (fun u : List Int => [wd u]) (fun u => u.length ≤ 100) (fun u r => r = .lst (fxs (KM.formsM u)))))
    (D_least_letter : Def P w K mg base 1 "least_letter" ["form", "letter"] (spF ⟨K, C⟩ (fun a : KM.Fm × Int => [.str (fxt a.1), .int a.2]) (fun _ => True) (fun a r => r = .int (KM.leastM a.1 a.2)))) :
    Def P w K mg base 2 "kind_in" ["word"] (spF ⟨K, C⟩ (fun u : List Int => [wd u]) (fun u => u.length ≤ 100) (fun u r => r = wd (KM.kindM u))) := by
  refine def_ok F sc_kind_in (fun _ => rfl) (fun f cdv A outer s H E hr => ⟨_, (have nd := sc_kind_in.nd; (pss_cons (ps_set (i := 1) nd rfl (.inl rfl) (pe_def D_forms_of (hr.mono (by decide)) (by rfl) (pa_cons (pv 0) pa_nil)))
    (pss_cons (ps_set (i := 2) nd rfl (.inl rfl) (pe_callB call_len_seq (by rfl) B.b_len (by decide +kernel) (pa_cons (pv 1) pa_nil)))
    (pss_cons (ps_while PassesOwn.never (PW.pt (pw_and (pt_cmpR (op_gt) (pv 2) pe_int (nomark _)) (pw_and1 (pt_cmpR (op_ne) (pe_ix ix_list (pv 1) (pe_op op_sub (pv 2) pe_int) (fun _ _ => rfl)) (pe_globR (by rfl) T.c_LIVE) (nomark _)))))
    (pss_one (ps_aug (i := 2) nd rfl (.inl rfl) pe_int ip_sub)))
    (pss_one (ps_ret (pe_callTy call_tuple_of (by rfl) B.b_tuple (by decide +kernel) (pa_cons (pe_lc (own := [("form", 3), ("letter", 4)]) (g := (gTup K 2 (gCons (gName 3) (gCons (gName 4) gNil)))) (tt := tYes) rfl nd (pi_zipM (by rfl) B.b_zip (pa_cons (pe_slice sl_list (pv 1) po_none (po_some (pv 2))) (pa_cons (pv 0) pa_nil))) (blkOk_by (own := [("form", 3), ("letter", 4)]) (N := ["word", "forms", "size", "form", "letter"]) (sc := defScope s_kind_in) (by decide +kernel)) (fun _ _ _ _ _ => pg_tup rfl (pgs_cons (pg_name (i := 3) nd rfl (Or.inl rfl)) (pgs_cons (pg_name (i := 4) nd rfl (Or.inl rfl)) pgs_nil))) (fun _ _ _ _ _ => pts_nil) (fun _ _ _ _ _ => (pe_def D_least_letter (hr.mono (by decide)) (by rfl) (pa_cons (pv 3) (pa_cons (pv 4) pa_nil))))) pa_nil)))))))), fun Ho u hu => ?_⟩)
  dsimp only [cxK]
  show Sx _ _ [.val (wd u), .non, .non, .non, .non] _ _
  refine sq_asg (ev_call u (ea_cons (ev_var rfl) ea_nil) hu fun d h => h) ?_
  have hfl := KM.formsM_len u
  have hkm : KM.kindM u = List.zipWith KM.leastM ((KM.formsM u).take (KM.sizeM (KM.formsM u) u.length)) u := rfl
  rw [hkm]
  generalize KM.formsM u = fs at hfl
  have hxl : (fxs fs).length = u.length := by
    unfold fxs
    rw [List.length_map, hfl]
  refine sq_asg (d := .int u.length) (ev_eq (ev_cb (ea_cons (ev_var (d := .lst (fxs fs)) rfl) ea_nil) cv_len_l) (by rw [hxl])) ?_
  refine sx_seq (N1 := fun δ => ∃ n : Nat, δ = [.val (wd u), .val (.lst (fxs fs)), .val (.int n), .non, .non] ∧ n ≤ u.length ∧ KM.sizeM fs u.length = n) (sx_while (fun δ => ∃ n : Nat, δ = [.val (wd u), .val (.lst (fxs fs)), .val (.int n), .non, .non] ∧ n ≤ u.length ∧ KM.sizeM fs n = KM.sizeM fs u.length) (fun δ => match δ with | [_, _, .val (.int n), _, _] => n.toNat | _ => 0) ⟨u.length, rfl, Nat.le_refl _, rfl⟩ ?_) ?_
  · rintro δ' ⟨n, rfl, hn, hs⟩
    cases n with
    | zero =>
      refine ⟨false, et_eq (et_and (m := false) (et_test (ev_op (ev_var rfl) ev_int rv_bool)) (fun h0 => ?_)) (by simp), (fun z => nomatch z), fun _ => ⟨0, rfl, hn, hs.symm⟩⟩
      simp at h0
    | succ n =>
      obtain ⟨g, hg⟩ : ∃ g, fs[n]? = some g := ⟨_, List.getElem?_eq_getElem (by omega)⟩
      have e : (((n + 1 : Nat) : Int) - 1) = (n : Int) := by omega
      have hat : atI (fxs fs) (((n + 1 : Nat) : Int) - 1) = some (.str (fxt g)) := by
        rw [e]
        exact fxs_at hg
      refine ⟨!decide (fxt g = fxt .live), et_eq (et_and (et_test (ev_op (ev_var rfl) ev_int rv_bool)) fun _ => et_test (ev_op (ev_op (ev_var rfl) (ev_op (ev_var rfl) ev_int rv_int) (rv_ixL hat)) ev_str rv_neS)) (by rw [decide_eq_true (by omega : ((n + 1 : Nat) : Int) > 0), Bool.true_and]; rfl), fun hk => ?_, fun hk => ?_⟩
      · rw [fxt_eq] at hk
        have hne : ¬ g = .live := by simpa using hk
        refine sx_aug (f := fun i j => i - j) (x := ((n + 1 : Nat) : Int)) (y := 1) rfl ev_int ⟨⟨n, ?_, by omega, ?_⟩, ?_⟩
        · show [Sl.val (wd u), .val (.lst (fxs fs)), Sl.val (Dv.int (((n + 1 : Nat) : Int) - 1)), .non, .non] = _
          rw [e]
        · rw [← hs]
          show _ = if fs[n]? = some .live then n + 1 else KM.sizeM fs n
          rw [if_neg (by rw [hg]; simpa using hne)]
        · show (((n + 1 : Nat) : Int) - 1).toNat < (((n + 1 : Nat) : Int)).toNat
          omega
      · rw [fxt_eq] at hk
        have he : g = .live := by simpa using hk
        refine ⟨n + 1, rfl, hn, ?_⟩
        rw [← hs]
        show (if fs[n]? = some .live then n + 1 else KM.sizeM fs n) = n + 1
        rw [if_pos (by rw [hg, he])]
  · rintro δ' ⟨n, rfl, hn, e0⟩
    rw [e0]
    have hz : (zipD (fxs (fs.take n)) (u.map Dv.int)).length ≤ 100 := by
      rw [zipD_len]
      · unfold fxs
        rw [List.length_map, List.length_take]
        omega
      · unfold fxs
        rw [List.length_map, List.length_take, List.length_map]
        omega
    refine sx_ret (d := wd (List.zipWith KM.leastM (fs.take n) u)) (ev_cb (ea_cons (ev_eq (ev_lcA (js := [3, 4]) leastE (iv_zipM (l := fxs (fs.take n)) (m := u.map Dv.int) (ea_cons (ev_eq (ev_sliceL (ev_var (d := .lst (fxs fs)) rfl) op_no (op_so (ev_var rfl))) ?_) (ea_cons (ev_var (d := wd u) rfl) ea_nil)) ?_) (by omega) (by simp) fun d hd => ?_) (congrArg Dv.lst (zip_least _ _))) ea_nil) cv_tuple_l) rfl
    · unfold fxs
      rw [cutD_map, cut_to]
    · unfold fxs
      rw [List.length_map, List.length_take, List.length_map]
      omega
    · obtain ⟨g, a, rfl⟩ := zipD_item _ _ hd
      refine ⟨_, tg_pair, ev_call (g, a) (ea_cons (ev_var rfl) (ea_cons (ev_var rfl) ea_nil)) trivial fun d h => ?_⟩
      rw [h]
      show _ = Dv.int (KM.leastM (unf (fxt g)) a)
      rw [unf_fxt]
abbrev spKind (K : PySem.W.Frag) (C : Addr) : Sp := spF ⟨K, C⟩ (fun u : List Int => [wd u]) (fun u => u.length ≤ 100) (fun u r => r = wd (KM.kindM u))
abbrev s_kind_of : Stmt := topS 36
theorem sc_kind_of : FnScope ["branch"] ["branch"] (defScope s_kind_of) := ⟨rfl, rfl, rfl, by decide +kernel, rfl, by decide +kernel, by decide +kernel⟩
theorem d_kind_of (B : Bl mg) (T : Cs K mg C) (Q : Bc K C) (F : Here K mg "kind_of" s_kind_of ["branch"])
    (D_require_branch : Def P w K mg base 1 "require_branch" ["value"] (spF ⟨K, C⟩ (fun a : Int × List Int => [.br a.1 a.2]) (fun _ => True) (fun _ _ => True))) (D_kind_in : Def P w K mg base 2 "kind_in" ["word"] (spKind K C)) :
    Def P w K mg base 3 "kind_of" ["branch"] (spF ⟨K, C⟩ (fun a : Int × List Int => [.br a.1 a.2]) (fun a => a.2.length ≤ 100) (fun a r => r = wd (KM.kindM a.2))) := by
  refine def_ok F sc_kind_of (fun _ => rfl) (fun f cdv A outer s H E hr => ⟨_, (have nd := sc_kind_of.nd; (pss_cons (ps_expr (pe_def D_require_branch (hr.mono (by decide)) (by rfl) (pa_cons (pv 0) pa_nil)))
    (pss_one (ps_ret (pe_def D_kind_in (hr.mono (by decide)) (by rfl) (pa_cons (pe_sl (pv 0)) pa_nil)))))), fun Ho a hu => ?_⟩)
  obtain ⟨p, u⟩ := a
  dsimp only [cxK] at hu ⊢
  show Sx _ _ [.val (.br p u)] _ _
  refine sq_drop (P := fun _ => True) (ep_call (AP.mono (ea_cons (ev_var rfl) ea_nil) fun ds e => ⟨(p, u), e, trivial, fun _ _ => trivial⟩)) fun _ _ => ?_
  exact sx_ret (ev_call u (ea_cons (ev_slWord (W := ⟨⟨K, C⟩, Ho, H⟩) Q (ev_var rfl)) ea_nil) hu fun d h => h) rfl
end
end KD
set_option Elab.async false
set_option linter.all false
set_option maxRecDepth 100000
set_option maxHeartbeats 4000000
namespace KD
open PySem PySem.Spec PyProof.Rows L2
open Evl (Ex Ex.refl Ex.trans Ex.new Ex.mut ex_l ex_t fresh_back)

local macro_rules | `(tactic| walk_at "kr") => `(tactic| first
  | with_reducible exact rv_int | with_reducible exact rv_bool | with_reducible exact rv_eqI | with_reducible exact rv_neI | with_reducible exact rv_eqW | with_reducible exact rv_neW | with_reducible exact rv_isN | with_reducible exact rv_notN
  | with_reducible exact rv_eqI' | with_reducible exact rv_neI' | with_reducible exact rv_eqL | with_reducible exact rv_neL | with_reducible exact rv_ltW | with_reducible exact rv_inI | with_reducible exact rv_niI | with_reducible exact rv_inT | with_reducible exact rv_niT | with_reducible exact rv_eqB | with_reducible exact rv_neB | with_reducible exact rv_eqS | with_reducible exact rv_neS)
local macro_rules | `(tactic| walk_at "kd") => `(tactic| first
  | ((with_reducible apply ev_var); rfl)
  | with_reducible exact ev_int | with_reducible exact ev_bl | with_reducible exact ev_non | with_reducible exact ev_str
  | ((with_reducible apply ev_neg); walk_at "kd")
  | ((with_reducible apply ev_op); walk_at "kd"; walk_at "kd"; walk_at "kr")
  | ((with_reducible apply et_test); walk_at "kd")
  | ((with_reducible apply et_B); walk_at "kd")
  | ((with_reducible apply et_not); walk_at "kd")
  | ((with_reducible apply ev_notV); walk_at "kd")
  | ((with_reducible apply ev_cb); walk_at "kd"; first | with_reducible exact cv_len_w | with_reducible exact cv_len_il | with_reducible exact cv_len_wds | with_reducible exact cv_len_t | with_reducible exact cv_len_l | with_reducible exact cv_tuple_l | with_reducible exact cv_tuple_t | with_reducible exact cv_list_l | with_reducible exact cv_list_t | with_reducible exact cv_len_s | with_reducible exact cv_abs | with_reducible exact cv_int | with_reducible exact cv_intb | with_reducible exact cv_max2 | with_reducible exact cv_min2 | with_reducible exact cv_all)
  | with_reducible exact ea_nil
  | ((with_reducible apply ea_cons); walk_at "kd"; walk_at "kd")
  | ((with_reducible apply ev_tup); walk_at "kd"; (first | decide | (simp; done) | (simp; omega)))
  | ((with_reducible apply ev_lst); walk_at "kd"; (first | decide | (simp; done) | (simp; omega)))
  | ((with_reducible apply ev_sliceW); walk_at "kd"; walk_at "ko"; walk_at "ko")
  | ((with_reducible apply ev_sliceI); walk_at "kd"; walk_at "ko"; walk_at "ko")
  | ((with_reducible apply ev_sliceT); walk_at "kd"; walk_at "ko"; walk_at "ko")
  | ((with_reducible apply ev_sliceL); walk_at "kd"; walk_at "ko"; walk_at "ko")
  | ((with_reducible apply ev_revL); walk_at "kd"))
local macro_rules | `(tactic| walk_at "ko") => `(tactic| first | with_reducible exact op_no | ((with_reducible apply op_so); walk_at "kd"))

section
variable {P : Program} {w : World} {K : PySem.W.Frag} {mg : Str → Option Value} {base : Heap} {C : Addr}

open SlX
def isKindM (u : List Int) : Bool := areD 2 (wd u) && (endsM u && decide (KM.kindM u = u))
/-- what is_kind answers -/
def KindR (d r : Dv) : Prop := (∀ u : List Int, d = wd u → r = .bl (isKindM u)) ∧ ((∀ u : List Int, d ≠ wd u) → r = .bl false)
theorem wd_inj {u v : List Int} (h : wd u = wd v) : u = v := by
  have h' : (u.map Dv.int) = v.map Dv.int := by
    have e := h
    unfold wd at e
    injection e
  exact (List.map_inj_right fun a b e => by injection e).mp h'
theorem all_let {p : Int} : ∀ {l : List Dv}, l.all (letD p) = true → ∃ u : List Int, l = u.map Dv.int
  | [], _ => ⟨[], rfl⟩
  | d :: l, h => by
    rw [List.all_cons, Bool.and_eq_true] at h
    obtain ⟨u, rfl⟩ := all_let h.2
    cases d with
    | int i => exact ⟨i :: u, rfl⟩
    | _ => exact absurd h.1 (by simp [letD, intD])
theorem are_word {p : Int} {d : Dv} (h : areD p d = true) : ∃ u : List Int, d = wd u ∧ u.length ≤ 60 := by
  cases d with
  | tup l =>
    have h' : (decide (l.length ≤ 60) && l.all (letD p)) = true := h
    rw [Bool.and_eq_true] at h'
    obtain ⟨u, rfl⟩ := all_let h'.2
    have := of_decide_eq_true h'.1
    rw [List.length_map] at this
    exact ⟨u, rfl, this⟩
  | _ => cases h
abbrev spAre (K : PySem.W.Frag) (C : Addr) : Sp := spF ⟨K, C⟩ (fun a : Int × Dv => [.int a.1, a.2]) (fun a => AreP a.2) (fun a r => r = .bl (areD a.1 a.2))
abbrev spEnds (K : PySem.W.Frag) (C : Addr) : Sp := spF ⟨K, C⟩ (fun u : List Int => [wd u]) (fun _ => True) (fun u r => r = .bl (endsM u))
abbrev spIsKind (K : PySem.W.Frag) (C : Addr) : Sp := spF ⟨K, C⟩ (fun d : Dv => [d]) AreP KindR
abbrev s_is_kind_word : Stmt := topS 37
theorem sc_is_kind_word : FnScope ["value"] ["value"] (defScope s_is_kind_word) := ⟨rfl, rfl, rfl, by decide +kernel, rfl, by decide +kernel, by decide +kernel⟩
theorem d_is_kind_word (B : Bl mg) (T : Cs K mg C) (F : Here K mg "is_kind_word" s_is_kind_word ["value"])
    (D_are_letters : Def P w K mg base 4 "are_letters" ["prime", "value"] (spAre K C)) (D_ends_as_word : Def P w K mg base 1 "ends_as_word" ["point"] (spEnds K C)) (D_kind_in : Def P w K mg base 2 "kind_in" ["word"] (spKind K C)) :
    Def P w K mg base 5 "is_kind_word" ["value"] (spIsKind K C) := by
  refine def_ok F sc_is_kind_word (fun _ => rfl) (fun f cdv A outer s H E hr => ⟨_, (have nd := sc_is_kind_word.nd; (pss_one (ps_ret (pe_and (pe_def D_are_letters (hr.mono (by decide)) (by rfl) (pa_cons pe_int (pa_cons (pv 0) pa_nil))) (pe_and (pe_def D_ends_as_word (hr.mono (by decide)) (by rfl) (pa_cons (pv 0) pa_nil)) (pe_one (pe_cmpR (op_eqD (hu64 hr)) (pe_def D_kind_in (hr.mono (by decide)) (by rfl) (pa_cons (pv 0) pa_nil)) (pv 0) (nomark _)))))))), fun Ho d hu => ?_⟩)
  dsimp only [cxK]
  show Sx _ _ [.val d] _ _
  have hw : Ev ⟨⟨K, C⟩, Ho, H⟩ (tCall (spAre K C) [] E0 (tCons (tC (.int 2)) (tCons (tVar 0) tNil))) [.val d] (.bl (areD 2 d)) := ev_call (W := ⟨⟨K, C⟩, Ho, H⟩) (2, d) (ea_cons ev_int (ea_cons (ev_var rfl) ea_nil)) hu fun d h => h
  by_cases ha : areD 2 d = true
  · obtain ⟨u, rfl, hl⟩ := are_word ha
    refine sx_ret (d := .bl (areD 2 (wd u) && (endsM u && decide (KM.kindM u = u)))) (ev_andV hw fun _ => ev_andV (ev_call u (ea_cons (ev_var rfl) ea_nil) trivial fun d h => h) fun _ => ev_op (ev_call u (ea_cons (ev_var rfl) ea_nil) (by omega) fun d h => h) (ev_var rfl) rv_eqW) ⟨fun v e => ?_, fun h => absurd rfl (h u)⟩
    rw [wd_inj e]
    rfl
  · have hf : areD 2 d = false := Bool.not_eq_true _ ▸ ha
    rw [hf] at hw
    refine sx_ret (d := .bl (false && true)) (ev_andV hw fun z => nomatch z) ⟨fun u e => ?_, fun _ => rfl⟩
    subst e
    unfold isKindM
    rw [hf]
    rfl
abbrev s_is_kind : Stmt := topS 38
theorem sc_is_kind : FnScope ["value"] ["value"] (defScope s_is_kind) := ⟨rfl, rfl, rfl, by decide +kernel, rfl, by decide +kernel, by decide +kernel⟩
theorem d_is_kind (B : Bl mg) (T : Cs K mg C) (F : Here K mg "is_kind" s_is_kind ["value"]) (D_is_kind_word : Def P w K mg base 5 "is_kind_word" ["value"] (spIsKind K C)) :
    Def P w K mg base 6 "is_kind" ["value"] (spIsKind K C) := by
  refine def_ok F sc_is_kind (fun _ => rfl) (fun f cdv A outer s H E hr => ⟨_, (have nd := sc_is_kind.nd; (pss_one (ps_ret (pe_def D_is_kind_word (hr.mono (by decide)) (by rfl) (pa_cons (pv 0) pa_nil))))), fun Ho d hu => ?_⟩)
  show Sx _ _ [.val d] _ _
  exact sx_retP (P := KindR d) (ep_call (AP.mono (ea_cons (ev_var rfl) ea_nil) fun ds e => ⟨d, e, hu, fun r h => h⟩)) fun d h => h
theorem prime_le {p : Int} (h : p ∈ primes) : 2 ≤ p ∧ p ≤ 31 := by
  simp only [primes, List.mem_cons, List.not_mem_nil, or_false] at h
  omega
theorem letD_int {p a : Int} (hp : p ≤ 31) : letD p (.int a) = (decide (-1 ≤ a) && decide (a < p)) := by
  show ((decide (-(10 ^ 60) < a) && decide (a < 10 ^ 60)) && (decide (-1 ≤ a) && decide (a < p))) = _
  by_cases h : -1 ≤ a ∧ a < p
  · rw [decide_eq_true (by omega : -(10 ^ 60) < a), decide_eq_true (by omega : a < 10 ^ 60)]
    rfl
  · have e : (decide (-1 ≤ a) && decide (a < p)) = false := by
      rw [← Bool.not_eq_true, Bool.and_eq_true, decide_eq_true_iff, decide_eq_true_iff]
      exact h
    rw [e, Bool.and_false]
theorem areD_wd {p : Int} (hp : p ≤ 31) (u : List Int) : areD p (wd u) = KM.wdPoint p u := by
  show (decide ((u.map Dv.int).length ≤ 60) && (u.map Dv.int).all (letD p)) = _
  rw [List.length_map, List.all_map]
  unfold KM.wdPoint
  congr 1
  congr 1
  funext a
  exact letD_int hp
theorem wdWord_eq {p : Int} (u : List Int) : KM.wdWord p u = (KM.wdPoint p u && endsM u) := rfl
/-- __init__ as it stands in the class -/
structure HereI (K : PySem.W.Frag) (C : Addr) (st : Stmt) : Prop where
  ex : ∃ f fd, Fun K "__init__" "Branch.__init__" st f fd ∧ Mk K C f ∧ Binds K fd ["self", "prime", "word"] []
abbrev s_Branch___init__ : Stmt := inClass (topS 25) 1
theorem sc_Branch___init__ : FnScope ["self", "prime", "word"] ["self", "prime", "word"] (defScope s_Branch___init__) := ⟨rfl, rfl, rfl, by decide +kernel, rfl, by decide +kernel, by decide +kernel⟩
theorem d_init (B : Bl mg) (T : Cs K mg C) (Q : Bc K C) (F : HereI K C s_Branch___init__)
    (D_require_prime : Def P w K mg base 3 "require_prime" ["value"] (spF ⟨K, C⟩ (fun i : Int => [.int i]) (fun i => i ∈ primes) (fun _ r => True)))
    (D_are_letters : Def P w K mg base 4 "are_letters" ["prime", "value"] (spAre K C)) (D_ends_as_word : Def P w K mg base 1 "ends_as_word" ["point"] (spEnds K C))
    (D_letters_text : Def P w K mg base 1 "letters_text" ["point"] (spF ⟨K, C⟩ (fun u : List Int => [wd u]) (fun u => u.length ≤ 60 ∧ ∀ a ∈ u, -1 ≤ a ∧ a < 31) (fun u r => ShortS 2000 r))) :
    Made P w K mg base C 5 := by
  obtain ⟨f, fd, F, M, b⟩ := F.ex
  refine ⟨f, fd, M, F.ok sc_Branch___init__ (fun vs H Q E h => ?_) (fun cdv A outer s H vs Q' E hr h => ?_), b⟩
  · obtain ⟨x, dx, v1, v2, Hs, Hb, p, u, rfl, _⟩ := h
    rfl
  · refine ⟨_, (have nd := sc_Branch___init__.nd; (pss_cons (ps_expr (pe_def D_require_prime (hr.mono (by decide)) (by rfl) (pa_cons (pv 1) pa_nil)))
    (pss_cons (ps_if (PW.pt (pw_or (pt_not (pt_val (pe_def D_are_letters (hr.mono (by decide)) (by rfl) (pa_cons (pv 1) (pa_cons (pv 2) pa_nil))))) (pw_or1 (pt_not (pt_val (pe_def D_ends_as_word (hr.mono (by decide)) (by rfl) (pa_cons (pv 2) pa_nil)))))))
    (pss_one ps_never)
    pss_nil)
    (pss_cons (ps_sl (pv 0) (pv 1))
    (pss_cons (ps_sl (pv 0) (pv 2))
    (pss_one (ps_sl (pv 0) (pe_joined (.cons (pe_fmt (pe_def D_letters_text (hr.mono (by decide)) (by rfl) (pa_cons (pv 2) pa_nil))) (.cons pe_str (.cons (pe_fmt (pv 1)) .nil))))))))))), ?_⟩
    obtain ⟨x, dx, v1, v2, Hs, Hb, p, u, rfl, hx, hdx, hne, eb, rfl, r1, r2, ⟨ok1, ok2, ok3⟩, q⟩ := h
    dsimp only [cxK]
    obtain ⟨p2, p31⟩ := prime_le ok1
    have hare : areD p (wd u) = true := by
      rw [areD_wd p31]
      rw [wdWord_eq, Bool.and_eq_true] at ok2
      exact ok2.1
    have hend : endsM u = true := by
      rw [wdWord_eq, Bool.and_eq_true] at ok2
      exact ok2.2
    have hlet : ∀ a ∈ u, -1 ≤ a ∧ a < 31 := fun a ha => by
      rw [wdWord_eq, Bool.and_eq_true, KM.wdPoint, Bool.and_eq_true, List.all_eq_true] at ok2
      have := ok2.1.2 a ha
      rw [Bool.and_eq_true, decide_eq_true_iff, decide_eq_true_iff] at this
      omega
    have hxs : Hs x = none := fresh_back eb hx
    have hdxs : Hs dx = none := fresh_back eb hdx
    have e0 : Ex Hb (upd (upd Hb dx (.own x)) x (.ins C dx [])) := Ex.mut (Ex.mut (Ex.refl Hb) hdx) hx
    have sd0 : SD ⟨⟨K, C⟩, Hs, Hb⟩ [.non, .val (.int p), .val (wd u)] [some (.ref x), some v1, some v2] Hs (upd (upd Hb dx (.own x)) x (.ins C dx [])) := by
      refine ⟨⟨Ex.refl _, e0, eb.trans e0, fun p h _ => h⟩, rfl, 0, fun i sl o h1 h2 => ?_⟩
      match i, h1, h2 with
      | 0, h1, h2 => cases h1; trivial
      | 1, h1, h2 => cases h1; cases h2; exact ⟨v1, rfl, r1⟩
      | 2, h1, h2 => cases h1; cases h2; exact ⟨v2, rfl, r2⟩
    have i0 : Ib ⟨⟨K, C⟩, Hs, Hb⟩ x dx [] [.non, .val (.int p), .val (wd u)] [some (.ref x), some v1, some v2] Hs (upd (upd Hb dx (.own x)) x (.ins C dx [])) :=
      ⟨sd0, rfl, .inl ⟨upd_same, rfl⟩, hxs, hdxs, by rw [upd_ne hne, upd_same]; exact fun z => nomatch z⟩
    have hno : ∀ (j : Nat) (ds : List Dv), ([.non, .val (.int p), .val (wd u)] : List Sl)[j]? ≠ some (.own ds) := fun j ds z => by
      match j, z with
      | 0, z => cases z
      | 1, z => cases z
      | 2, z => cases z
    obtain ⟨p0, s0⟩ := Q.s0
    obtain ⟨p1, s1⟩ := Q.s1
    obtain ⟨p2', s2⟩ := Q.s2
    refine ib_drop (P := fun _ => True) i0 (ep_call (AP.mono (ea_cons (ev_var rfl) ea_nil) fun ds e => ⟨p, e, ok1, fun _ _ => trivial⟩)) fun Hs1 H1 e1 i1 => ?_
    dsimp only
    have hb : AreP (wd u) := .inl ⟨_, rfl, by simp; omega, fun d hd => by
      obtain ⟨a, _, rfl⟩ := List.mem_map.mp hd
      exact .inl ⟨a, rfl⟩⟩
    have hfalse : (!areD p (wd u) || !endsM u) = false := by
      rw [hare, hend]
      rfl
    refine ib_if (by
      exact i1) ?_ fun Hs2 H2 e2 i2 => ?_
    · rw [← hfalse]
      exact et_or (et_not (et_B (ev_call (p, wd u) (ea_cons (ev_var rfl) (ea_cons (ev_var rfl) ea_nil)) hb fun d h => h))) fun _ => et_not (et_B (ev_call u (ea_cons (ev_var rfl) ea_nil) trivial fun d h => h))
    unfold tNext
    dsimp only
    refine ib_set (P := fun d => d = .int p) i2 hno hne hx hdx Q.cls s0 (ev_var rfl) fun Hs3 H3 v3 d3 pd3 rd3 e3 i3 _ _ => ?_
    dsimp only
    refine ib_set (P := fun d => d = wd u) i3 hno hne hx hdx Q.cls s2 (ev_var rfl) fun Hs4 H4 v4 d4 pd4 rd4 e4 i4 _ _ => ?_
    dsimp only
    refine ib_set (P := ShortS 3000) i4 hno hne hx hdx Q.cls s1 (ep_fstr (by decide) (ep_call (AP.mono (ea_cons (ev_var rfl) ea_nil) fun ds e => ⟨u, e, ⟨ok3, hlet⟩, fun d h => h⟩)) (ev_var rfl) (by omega) (by omega)) fun Hs5 H5 v5 d5 pd5 rd5 e5 i5 hd5 hX5 => ?_
    subst pd3
    subst pd4
    cases rd3
    cases rd4 with
    | @tup b' xs4 _ hq hr4 =>
      have ex4 := rp_ints hr4
      subst ex4
      refine q Hs5 H5 _ b' i5.sd.stp i5.x0 i5.d0 hX5 hd5 ?_ ?_ (ex_t e5 hq)
      · exact (putS_ne (by decide)).mpr ((putS_ne (by decide)).mpr (putS_get _ _ _))
      · exact (putS_ne (by decide)).mpr (putS_get _ _ _)
end
end KD
set_option Elab.async false
set_option linter.all false
set_option maxRecDepth 100000
set_option maxHeartbeats 4000000
namespace KD
open PySem PySem.Spec PyProof.Rows L2
open Evl (Ex Ex.refl Ex.trans Ex.new Ex.mut ex_l ex_t fresh_back)

local macro_rules | `(tactic| walk_at "kr") => `(tactic| first
  | with_reducible exact rv_int | with_reducible exact rv_bool | with_reducible exact rv_eqI | with_reducible exact rv_neI | with_reducible exact rv_eqW | with_reducible exact rv_neW | with_reducible exact rv_isN | with_reducible exact rv_notN
  | with_reducible exact rv_eqI' | with_reducible exact rv_neI' | with_reducible exact rv_eqL | with_reducible exact rv_neL | with_reducible exact rv_ltW | with_reducible exact rv_inI | with_reducible exact rv_niI | with_reducible exact rv_inT | with_reducible exact rv_niT | with_reducible exact rv_eqB | with_reducible exact rv_neB | with_reducible exact rv_eqS | with_reducible exact rv_neS)
local macro_rules | `(tactic| walk_at "kd") => `(tactic| first
  | ((with_reducible apply ev_var); rfl)
  | with_reducible exact ev_int | with_reducible exact ev_bl | with_reducible exact ev_non | with_reducible exact ev_str
  | ((with_reducible apply ev_neg); walk_at "kd")
  | ((with_reducible apply ev_op); walk_at "kd"; walk_at "kd"; walk_at "kr")
  | ((with_reducible apply et_test); walk_at "kd")
  | ((with_reducible apply et_B); walk_at "kd")
  | ((with_reducible apply et_not); walk_at "kd")
  | ((with_reducible apply ev_notV); walk_at "kd")
  | ((with_reducible apply ev_cb); walk_at "kd"; first | with_reducible exact cv_len_w | with_reducible exact cv_len_il | with_reducible exact cv_len_wds | with_reducible exact cv_len_t | with_reducible exact cv_len_l | with_reducible exact cv_tuple_l | with_reducible exact cv_tuple_t | with_reducible exact cv_list_l | with_reducible exact cv_list_t | with_reducible exact cv_len_s | with_reducible exact cv_abs | with_reducible exact cv_int | with_reducible exact cv_intb | with_reducible exact cv_max2 | with_reducible exact cv_min2 | with_reducible exact cv_all)
  | with_reducible exact ea_nil
  | ((with_reducible apply ea_cons); walk_at "kd"; walk_at "kd")
  | ((with_reducible apply ev_tup); walk_at "kd"; (first | decide | (simp; done) | (simp; omega)))
  | ((with_reducible apply ev_lst); walk_at "kd"; (first | decide | (simp; done) | (simp; omega)))
  | ((with_reducible apply ev_sliceW); walk_at "kd"; walk_at "ko"; walk_at "ko")
  | ((with_reducible apply ev_sliceI); walk_at "kd"; walk_at "ko"; walk_at "ko")
  | ((with_reducible apply ev_sliceT); walk_at "kd"; walk_at "ko"; walk_at "ko")
  | ((with_reducible apply ev_sliceL); walk_at "kd"; walk_at "ko"; walk_at "ko")
  | ((with_reducible apply ev_revL); walk_at "kd"))
local macro_rules | `(tactic| walk_at "ko") => `(tactic| first | with_reducible exact op_no | ((with_reducible apply op_so); walk_at "kd"))

section
variable {P : Program} {w : World} {K : PySem.W.Frag} {mg : Str → Option Value} {base : Heap} {C : Addr}

theorem lexLt_lx : ∀ u v : List Int, HT.lexLt u v = KM.lx u v
  | [], [] => rfl
  | [], _ :: _ => rfl
  | _ :: _, [] => rfl
  | x :: xs, y :: ys => by
    show (if x = y then HT.lexLt xs ys else decide (x < y)) = if x = y then KM.lx xs ys else decide (x < y)
    rw [lexLt_lx xs ys]
theorem isKindM_eq (u : List Int) : isKindM u = (KM.wdWord 2 u && decide (KM.kindM u = u)) := by
  unfold isKindM
  rw [areD_wd (by decide), wdWord_eq, Bool.and_assoc]
theorem kind_word {p : Int} (hp : 2 ≤ p) (w : List Int) (hl : w.length ≤ 60) : KM.wdWord p (KM.kindM w) = true :=
  KM.wdWord_mk (Nat.le_trans (KM.kindM_le w) hl) (fun a ha => by rcases KM.kind_letters w a ha with h | h | h <;> omega) (KM.kind_valid w)
theorem kind_is (w : List Int) (hl : w.length ≤ 60) : isKindM (KM.kindM w) = true := by
  rw [isKindM_eq, kind_word (by decide) w hl, KM.kind_kind, decide_eq_true rfl]
  rfl
theorem isKind_iff (u w : List Int) (hl : w.length ≤ 60) (h : KM.kindM u = KM.kindM w) : isKindM u = decide (u = KM.kindM w) := by
  by_cases e : u = KM.kindM w
  · rw [decide_eq_true e, e]
    exact kind_is w hl
  · rw [decide_eq_false e, isKindM_eq, decide_eq_false, Bool.and_false]
    rw [h]
    exact fun z => e z.symm
/-- the least of all words with the same generators -/
theorem kind_least {p : Nat} (hp : p = 2 ∨ p = 3) {u : List Int} (hv : KM.Valid u) (hl : u.length ≤ 5) {o : Option (List Int)} (h : LeastO (KM.sameOf p u) o) : o = some (KM.kindM u) := by
  have hkl := KM.kindM_le u
  have hmem : ∀ v, v ∈ KM.sameOf p u → KM.Valid v ∧ v.length ≤ 6 ∧ KM.gensM v = KM.gensM u ∧ ∀ a ∈ v, -1 ≤ a := fun v hv' => by
    obtain ⟨n, hn, hf⟩ := List.mem_flatMap.mp hv'
    obtain ⟨ha, hg⟩ := List.mem_filter.mp hf
    have hn' := List.mem_range.mp hn
    obtain ⟨h1, h2⟩ := KM.all_word ha
    exact ⟨h1, by omega, of_decide_eq_true hg, KM.all_letters ha⟩
  have hleast : LeastIn (KM.kindM u) (KM.sameOf p u) := by
    refine ⟨List.mem_flatMap.mpr ⟨(KM.kindM u).length, List.mem_range.mpr (by omega), List.mem_filter.mpr ⟨KM.kind_all (by omega) u, decide_eq_true (KM.gens_kind hv)⟩⟩, fun v hv' => ?_⟩
    obtain ⟨h1, h2, h3, h4⟩ := hmem v hv'
    have e := KM.gens_inj h1 hv (by omega) (by omega) h3
    rw [lexLt_lx, ← e]
    exact KM.lx_kind v h4
  cases o with
  | none =>
    have hnil : KM.sameOf p u = [] := h
    have := hleast.1
    rw [hnil] at this
    cases this
  | some m => exact congrArg some (LeastIn.uniq (fun _ => Iff.rfl) h hleast)
abbrev spKindOf (K : PySem.W.Frag) (C : Addr) : Sp := spF ⟨K, C⟩ (fun a : Int × List Int => [.br a.1 a.2]) (fun a => a.2.length ≤ 100) (fun a r => r = wd (KM.kindM a.2))
/-- kind_of(Branch(p, u)) -/
theorem ev_kind {K : PySem.W.Frag} {C : Addr} {Ho Hb : Hp} {δ : List Sl} {tp tw : TE} {p : Int} {u : List Int} (hp : Ev ⟨⟨K, C⟩, Ho, Hb⟩ tp δ (.int p)) (hw : Ev ⟨⟨K, C⟩, Ho, Hb⟩ tw δ (wd u)) (ok : OkW p u) :
    Ev ⟨⟨K, C⟩, Ho, Hb⟩ (tCall (spKindOf K C) [] E0 (tCons (tMake C (spInit K C) [] E0 (tCons tp (tCons tw tNil))) tNil)) δ (wd (KM.kindM u)) :=
  ev_call (p, u) (ea_cons (ev_make hp hw ok) ea_nil) (by have := ok.2.2; dsimp only; omega) fun d h => h
theorem ev_isKind {K : PySem.W.Frag} {C : Addr} {Ho Hb : Hp} {δ : List Sl} {te : TE} {u : List Int} (h : Ev ⟨⟨K, C⟩, Ho, Hb⟩ te δ (wd u)) (hl : u.length ≤ 100) :
    Ev ⟨⟨K, C⟩, Ho, Hb⟩ (tCall (spIsKind K C) [] E0 (tCons te tNil)) δ (.bl (isKindM u)) :=
  ev_call (wd u) (ea_cons h ea_nil) (.inl ⟨_, rfl, by simpa using hl, fun d hd => by
    obtain ⟨a, _, rfl⟩ := List.mem_map.mp hd
    exact .inl ⟨a, rfl⟩⟩) fun d h => h.1 u rfl
theorem okw {p : Int} {u : List Int} {n : Nat} (hp : p ∈ primes) (h : DrawnW p n u) (hn : n ≤ 60) : OkW p u := ⟨hp, KM.wdWord_mk (Nat.le_trans h.1.1 hn) h.1.2 h.2, Nat.le_trans h.1.1 hn⟩
abbrev spLeast (K : PySem.W.Frag) (C : Addr) : Sp := spF ⟨K, C⟩ (fun a : Nat × List Int => [.int a.1, wd a.2]) (fun a => (a.1 = 2 ∨ a.1 = 3) ∧ KM.Valid a.2 ∧ a.2.length ≤ 5) (fun a d => ∃ o, LeastO (KM.sameOf a.1 a.2) o ∧ d = ow o)
abbrev s_law_is_by_all : Stmt := topS 59
theorem sc_law_is_by_all : FnScope ["_law_dice_here", "_law_prime", "_law_most", "_law_word", "_law_kind"] ["_law_dice_here"] (defScope s_law_is_by_all) := ⟨rfl, rfl, rfl, by decide +kernel, rfl, by decide +kernel, by decide +kernel⟩
theorem d_is_by_all (B : Bl mg) (T : Cs K mg C) (M : Made P w K mg base C 5) (F : Here K mg "_law_is_by_all" s_law_is_by_all ["_law_dice_here"])
    (D_law_pick : Def P w K mg base 2 "_law_pick" ["_law_dice_here", "_law_items"] (spPick K C)) (D_law_word_drawn : Def P w K mg base 4 "_law_word_drawn" ["_law_dice_here", "_law_prime", "_law_most"] (spWord K C))
    (D_kind_of : Def P w K mg base 3 "kind_of" ["branch"] (spKindOf K C)) (D_is_kind : Def P w K mg base 6 "is_kind" ["value"] (spIsKind K C)) (D_law_least : Def P w K mg base 5 "_law_least" ["_law_prime", "_law_word"] (spLeast K C)) :
    Def P w K mg base 7 "_law_is_by_all" ["_law_dice_here"] (spF ⟨K, C⟩ (fun _ : Unit => [.dice]) (fun _ => True) (fun _ r => r = .bl true)) := by
  refine def_ok F sc_law_is_by_all (fun _ => rfl) (fun f cdv A outer s H E hr => ⟨_, (have nd := sc_law_is_by_all.nd; (pss_cons (ps_asg (pe_def D_law_pick (hr.mono (by decide)) (by rfl) (pa_cons (pv 0) (pa_cons (pe_lst (pa_cons (pe_tup (pa_cons pe_int (pa_cons pe_int pa_nil))) (pa_cons (pe_tup (pa_cons pe_int (pa_cons pe_int pa_nil))) (pa_cons (pe_tup (pa_cons pe_int (pa_cons pe_int pa_nil))) (pa_cons (pe_tup (pa_cons pe_int (pa_cons pe_int pa_nil))) pa_nil))))) pa_nil))) (pg_tup (by rfl) (pgs_cons (pg_name (i := 1) nd rfl (.inl rfl)) (pgs_cons (pg_name (i := 2) nd rfl (.inl rfl)) pgs_nil))))
    (pss_cons (ps_set (i := 3) nd rfl (.inl rfl) (pe_def D_law_word_drawn (hr.mono (by decide)) (by rfl) (pa_cons (pv 0) (pa_cons (pv 1) (pa_cons (pv 2) pa_nil)))))
    (pss_cons (ps_set (i := 4) nd rfl (.inl rfl) (pe_def D_kind_of (hr.mono (by decide)) (by rfl) (pa_cons (pe_branchX (K := K) rfl M T.c_Branch (hr.mono (by decide)) (by rfl) (pa_cons (pv 1) (pa_cons (pv 3) pa_nil))) pa_nil)))
    (pss_one (ps_ret (pe_and (pe_cmpR (op_eqD (hu64 hr)) (pv 4) (pe_def D_law_least (hr.mono (by decide)) (by rfl) (pa_cons (pv 1) (pa_cons (pv 3) pa_nil))) (nomark _)) (pe_and (pe_def D_is_kind (hr.mono (by decide)) (by rfl) (pa_cons (pv 4) pa_nil)) (pe_one (pe_cmpR (op_eq) (pe_def D_is_kind (hr.mono (by decide)) (by rfl) (pa_cons (pv 3) pa_nil)) (pe_cmpR (op_eqD (hu64 hr)) (pv 4) (pv 3) (nomark _)) (nomark _))))))))))), fun Ho a hu => ?_⟩)
  dsimp only [cxK]
  show Sx _ _ [.val .dice, .non, .non, .non, .non] _ _
  refine sq_asgGP (js := [1, 2]) (P := fun d => ∃ p m : Nat, d = .tup [.int p, .int m] ∧ (p = 2 ∨ p = 3) ∧ 1 ≤ m ∧ m ≤ 5) (EP.mono (ep_call (P := fun d => d ∈ [Dv.tup [.int 2, .int 5], .tup [.int 2, .int 4], .tup [.int 3, .int 4], .tup [.int 3, .int 3]]) (AP.mono (ea_cons (ev_var rfl) (ea_cons (ev_lst (by walk_at "kd") (by simp)) ea_nil)) fun ds e => ⟨_, e, ⟨by simp, by simp⟩, fun d h => h⟩)) fun d hd => ?_) ?_
  · simp only [List.mem_cons, List.not_mem_nil, or_false] at hd
    rcases hd with rfl | rfl | rfl | rfl
    · exact ⟨2, 5, rfl, .inl rfl, by omega, by omega⟩
    · exact ⟨2, 4, rfl, .inl rfl, by omega, by omega⟩
    · exact ⟨3, 4, rfl, .inr rfl, by omega, by omega⟩
    · exact ⟨3, 3, rfl, .inr rfl, by omega, by omega⟩
  · rintro d ⟨p, m, rfl, hp, hm1, hm5⟩
    refine ⟨_, tg_pair, ?_⟩
    refine sq_asgP (P := fun d => ∃ u, d = wd u ∧ DrawnW p m u) (ep_call (AP.mono (ea_cons (ev_var rfl) (ea_cons (ev_var rfl) (ea_cons (ev_var rfl) ea_nil))) fun ds e => ⟨(p, m), e, ⟨by dsimp only; omega, by dsimp only; omega, hm1, by dsimp only; omega⟩, fun d h => h⟩)) ?_
    rintro d ⟨u, rfl, hu⟩
    have hul : u.length ≤ 5 := Nat.le_trans hu.1.1 hm5
    have hpr : (p : Int) ∈ primes := by
      rcases hp with rfl | rfl <;> decide
    refine sq_asg (ev_kind (ev_var rfl) (ev_var rfl) (okw hpr hu (by omega))) ?_
    have hkl := KM.kindM_le u
    refine sx_ret (d := .bl (decide (KM.kindM u = KM.kindM u) && (isKindM (KM.kindM u) && decide (isKindM u = decide (KM.kindM u = u))))) (ev_andV (ev_op (ev_var rfl) (EP.mono (ep_call (P := fun d => d = wd (KM.kindM u)) (AP.mono (ea_cons (ev_var rfl) (ea_cons (ev_var rfl) ea_nil)) fun ds e => ⟨(p, u), e, ⟨hp, hu.2, hul⟩, fun d ⟨o, ho, e⟩ => ?_⟩)) fun d h => h) rv_eqW) fun _ => ev_andV (ev_isKind (ev_var rfl) (by omega)) fun _ => ev_op (ev_isKind (ev_var rfl) (by omega)) (ev_op (ev_var rfl) (ev_var rfl) rv_eqW) rv_eqB) ?_
    · rw [e, kind_least hp hu.2 hul ho]
      rfl
    · rw [kind_is u (by omega), isKind_iff u u (by omega) rfl, decide_eq_true rfl]
      show Dv.bl (decide (decide (u = KM.kindM u) = decide (KM.kindM u = u))) = .bl true
      rw [decide_eq_true]
      by_cases e : u = KM.kindM u
      · rw [decide_eq_true e, decide_eq_true e.symm]
      · rw [decide_eq_false e, decide_eq_false fun z => e z.symm]
end
end KD
set_option Elab.async false
set_option linter.all false
set_option maxRecDepth 100000
set_option maxHeartbeats 4000000
namespace KD
open PySem PySem.Spec PyProof.Rows L2
open Evl (Ex Ex.refl Ex.trans Ex.new Ex.mut ex_l ex_t fresh_back)

local macro_rules | `(tactic| walk_at "kr") => `(tactic| first
  | with_reducible exact rv_int | with_reducible exact rv_bool | with_reducible exact rv_eqI | with_reducible exact rv_neI | with_reducible exact rv_eqW | with_reducible exact rv_neW | with_reducible exact rv_isN | with_reducible exact rv_notN
  | with_reducible exact rv_eqI' | with_reducible exact rv_neI' | with_reducible exact rv_eqL | with_reducible exact rv_neL | with_reducible exact rv_ltW | with_reducible exact rv_inI | with_reducible exact rv_niI | with_reducible exact rv_inT | with_reducible exact rv_niT | with_reducible exact rv_eqB | with_reducible exact rv_neB | with_reducible exact rv_eqS | with_reducible exact rv_neS)
local macro_rules | `(tactic| walk_at "kd") => `(tactic| first
  | ((with_reducible apply ev_var); rfl)
  | with_reducible exact ev_int | with_reducible exact ev_bl | with_reducible exact ev_non | with_reducible exact ev_str
  | ((with_reducible apply ev_neg); walk_at "kd")
  | ((with_reducible apply ev_op); walk_at "kd"; walk_at "kd"; walk_at "kr")
  | ((with_reducible apply et_test); walk_at "kd")
  | ((with_reducible apply et_B); walk_at "kd")
  | ((with_reducible apply et_not); walk_at "kd")
  | ((with_reducible apply ev_notV); walk_at "kd")
  | ((with_reducible apply ev_cb); walk_at "kd"; first | with_reducible exact cv_len_w | with_reducible exact cv_len_il | with_reducible exact cv_len_wds | with_reducible exact cv_len_t | with_reducible exact cv_len_l | with_reducible exact cv_tuple_l | with_reducible exact cv_tuple_t | with_reducible exact cv_list_l | with_reducible exact cv_list_t | with_reducible exact cv_len_s | with_reducible exact cv_abs | with_reducible exact cv_int | with_reducible exact cv_intb | with_reducible exact cv_max2 | with_reducible exact cv_min2 | with_reducible exact cv_all)
  | with_reducible exact ea_nil
  | ((with_reducible apply ea_cons); walk_at "kd"; walk_at "kd")
  | ((with_reducible apply ev_tup); walk_at "kd"; (first | decide | (simp; done) | (simp; omega)))
  | ((with_reducible apply ev_lst); walk_at "kd"; (first | decide | (simp; done) | (simp; omega)))
  | ((with_reducible apply ev_sliceW); walk_at "kd"; walk_at "ko"; walk_at "ko")
  | ((with_reducible apply ev_sliceI); walk_at "kd"; walk_at "ko"; walk_at "ko")
  | ((with_reducible apply ev_sliceT); walk_at "kd"; walk_at "ko"; walk_at "ko")
  | ((with_reducible apply ev_sliceL); walk_at "kd"; walk_at "ko"; walk_at "ko")
  | ((with_reducible apply ev_revL); walk_at "kd"))
local macro_rules | `(tactic| walk_at "ko") => `(tactic| first | with_reducible exact op_no | ((with_reducible apply op_so); walk_at "kd"))

section
variable {P : Program} {w : World} {K : PySem.W.Frag} {mg : Str → Option Value} {base : Heap} {C : Addr}

abbrev spPair (K : PySem.W.Frag) (C : Addr) : Sp := spF ⟨K, C⟩ (fun _ : Unit => [.dice]) (fun _ => True) (fun _ d => ∃ (p : Int) (w : List Int), d = .tup [.int p, wd w] ∧ p ∈ [2, 3, 5, 7, 31] ∧ DrawnW p 9 w)
abbrev spKin (K : PySem.W.Frag) (C : Addr) : Sp := spF ⟨K, C⟩ (fun a : Int × List Int => [.dice, .int a.1, wd a.2]) (fun a => 2 ≤ a.1 ∧ a.1 ≤ 31 ∧ a.2.length ≤ 50) (fun a d => ∃ kin, d = wd kin ∧ KM.KinOf a.1 a.2 kin)
abbrev spGens (K : PySem.W.Frag) (C : Addr) : Sp := spF ⟨K, C⟩ (fun u : List Int => [wd u]) (fun u => KM.Valid u ∧ u.length ≤ 100) (fun u d => d = wd (KM.gensM u))
abbrev spIsWord (K : PySem.W.Frag) (C : Addr) : Sp := spF ⟨K, C⟩ (fun a : Int × List Int => [.int a.1, wd a.2]) (fun a => a.2.length ≤ 100) (fun a d => d = .bl (KM.wdWord a.1 a.2))
/-- a letter that no kind has -/
def farL : Dv → Bool
  | .int a => !([-1, 0, 1] : List Int).contains a
  | _ => false
/-- a value that is no kind -/
def NoKind (d : Dv) : Prop := AreP d ∧ ∀ r, KindR d r → r = .bl false
theorem areP_wd {u : List Int} (h : u.length ≤ 100) : AreP (wd u) := .inl ⟨_, rfl, by simpa using h, fun d hd => by
  obtain ⟨a, _, rfl⟩ := List.mem_map.mp hd
  exact .inl ⟨a, rfl⟩⟩
theorem noKind_wd {u : List Int} (hl : u.length ≤ 100) (h : isKindM u = false) : NoKind (wd u) := ⟨areP_wd hl, fun r hr => by rw [hr.1 u rfl, h]⟩
theorem noKind_of {d : Dv} {t : String} (hd : ∀ l, d ≠ .tup l) (ht : tyD d = some t) (hk : kitB t "tuple" = some false) : NoKind d := ⟨.inr ⟨hd, t, ht, hk⟩, fun r hr => hr.2 fun u => hd _⟩
theorem odd_zero (u : List Int) : isKindM (u ++ [0]) = false := by
  rw [isKindM_eq]
  have e : KM.wdWord 2 (u ++ [0]) = false := by
    cases h : KM.wdWord 2 (u ++ [0]) with
    | false => rfl
    | true =>
      obtain ⟨hv, _, _⟩ := KM.wdWord_valid h
      rcases hv.cases with h | h | ⟨t, l, h, hl⟩
      · simp at h
      · have := congrArg (·.getLastD 5) h
        simp at this
      · have := congrArg (·.getLastD 5) h
        simp at this
        omega
  rw [e]
  rfl
theorem odd_ones (w : List Int) : isKindM (KM.kindM w ++ [1, 1]) = false := by
  rw [isKindM_eq]
  have e : KM.kindM (KM.kindM w ++ [1, 1]) = KM.kindM w := by
    by_cases h : KM.kindM w = []
    · rw [h]
      decide
    · exact KM.kind_tail w (by decide) h
  rw [e, decide_eq_false, Bool.and_false]
  intro z
  have := congrArg List.length z
  simp at this
theorem odd_true : NoKind (.tup [.bl true]) := ⟨.inl ⟨_, rfl, by decide, fun d hd => by rw [List.mem_singleton.mp hd]; exact .inr ⟨true, rfl⟩⟩, fun r hr => hr.2 fun u z => by
  cases u with
  | nil => cases z
  | cons a u =>
    injection z with z
    injection z with z _
    cases z⟩
theorem odd_all {w : List Int} (hl : w.length ≤ 9) : ∀ d ∈ [Dv.non, .int 0, il (KM.kindM w), wd (KM.kindM w ++ [0]), wd (KM.kindM w ++ [1, 1]), wd [2], .tup [.bl true], .str "0 t 1", wd [-1], .dct], NoKind d := by
  have hkl := KM.kindM_le w
  intro d hd
  simp only [List.mem_cons, List.not_mem_nil, or_false] at hd
  rcases hd with rfl | rfl | rfl | rfl | rfl | rfl | rfl | rfl | rfl | rfl
  · exact noKind_of (fun l z => nomatch z) rfl (by decide +kernel)
  · exact noKind_of (fun l z => nomatch z) rfl (by decide +kernel)
  · exact noKind_of (fun l z => nomatch z) rfl (by decide +kernel)
  · exact noKind_wd (by simp; omega) (odd_zero _)
  · exact noKind_wd (by simp; omega) (odd_ones w)
  · exact noKind_wd (by decide) (by rw [isKindM_eq]; decide)
  · exact odd_true
  · exact noKind_of (fun l z => nomatch z) rfl (by decide +kernel)
  · exact noKind_wd (by decide) (by rw [isKindM_eq]; decide)
  · exact noKind_of (fun l z => nomatch z) rfl (by decide +kernel)
abbrev s_law_is_right : Stmt := topS 60
theorem sc_law_is_right : FnScope ["_law_dice_here", "_law_prime", "_law_word", "_law_kind", "_law_far", "_law_kin", "_law_at", "_law_less", "_law_odd", "_law_letter_here"] ["_law_dice_here"] (defScope s_law_is_right) := ⟨rfl, rfl, rfl, by decide +kernel, rfl, by decide +kernel, by decide +kernel⟩
theorem d_is_right (B : Bl mg) (T : Cs K mg C) (M : Made P w K mg base C 5) (F : Here K mg "_law_is_right" s_law_is_right ["_law_dice_here"])
    (D_law_pick : Def P w K mg base 2 "_law_pick" ["_law_dice_here", "_law_items"] (spPick K C)) (D_law_wd_pair : Def P w K mg base 5 "_law_wd_pair" ["_law_dice_here"] (spPair K C))
    (D_law_kd_size : Def P w K mg base 4 "_law_kd_size" ["_law_word"] (spF ⟨K, C⟩ (fun u : List Int => [wd u]) (fun u => u.length ≤ 100) (fun u d => d = .int (KM.kdSize u))))
    (D_law_generators : Def P w K mg base 4 "_law_generators" ["_law_word"] (spGens K C)) (D_law_wd_is_word : Def P w K mg base 2 "_law_wd_is_word" ["_law_prime", "_law_value"] (spIsWord K C))
    (D_law_kd_kin : Def P w K mg base 5 "_law_kd_kin" ["_law_dice_here", "_law_prime", "_law_word"] (spKin K C))
    (D_kind_of : Def P w K mg base 3 "kind_of" ["branch"] (spKindOf K C)) (D_is_kind : Def P w K mg base 6 "is_kind" ["value"] (spIsKind K C)) :
    Def P w K mg base 7 "_law_is_right" ["_law_dice_here"] (spF ⟨K, C⟩ (fun _ : Unit => [.dice]) (fun _ => True) (fun _ r => r = .bl true)) := by
  refine def_ok F sc_law_is_right (fun _ => rfl) (fun f cdv A outer s H E hr => ⟨_, (have nd := sc_law_is_right.nd; (pss_cons (ps_asg (pe_def D_law_wd_pair (hr.mono (by decide)) (by rfl) (pa_cons (pv 0) pa_nil)) (pg_tup (by rfl) (pgs_cons (pg_name (i := 1) nd rfl (.inl rfl)) (pgs_cons (pg_name (i := 2) nd rfl (.inl rfl)) pgs_nil))))
    (pss_cons (ps_set (i := 3) nd rfl (.inl rfl) (pe_def D_kind_of (hr.mono (by decide)) (by rfl) (pa_cons (pe_branchX (K := K) rfl M T.c_Branch (hr.mono (by decide)) (by rfl) (pa_cons (pv 1) (pa_cons (pv 2) pa_nil))) pa_nil)))
    (pss_cons (ps_if (PW.pt (pw_or (pt_cmpR (op_neD (hu64 hr)) (pe_lc (own := [("_law_letter_here", 9)]) (g := gName 9) (tt := _) rfl nd (pi_tup (pv 3)) (blkOk_by (own := [("_law_letter_here", 9)]) (N := ["_law_dice_here", "_law_prime", "_law_word", "_law_kind", "_law_far", "_law_kin", "_law_at", "_law_less", "_law_odd", "_law_letter_here"]) (sc := defScope s_law_is_right) (by decide +kernel)) (fun _ _ _ _ _ => pg_name (i := 9) nd rfl (Or.inl rfl)) (fun _ _ _ _ _ => pts_one (pt_cmpR ((op_notInX (K := K) rfl)) (pv 9) (pe_tup (pa_cons (pe_un un_neg pe_int) (pa_cons pe_int (pa_cons pe_int pa_nil)))) (by rfl))) (fun _ _ _ _ _ => (pv 9))) (pe_lst pa_nil) (nomark _)) (pw_or1 (pt_cmpR (op_ne) (pe_callB call_len_seq (by rfl) B.b_len (by decide +kernel) (pa_cons (pv 3) pa_nil)) (pe_def D_law_kd_size (hr.mono (by decide)) (by rfl) (pa_cons (pv 2) pa_nil)) (nomark _)))))
    (pss_one (ps_ret pe_bl))
    pss_nil)
    (pss_cons (ps_if (PW.pt (pw_or (pt_cmpR (op_neD (hu64 hr)) (pe_def D_law_generators (hr.mono (by decide)) (by rfl) (pa_cons (pv 3) pa_nil)) (pe_def D_law_generators (hr.mono (by decide)) (by rfl) (pa_cons (pv 2) pa_nil)) (nomark _)) (pw_or (pt_not (pt_val (pe_def D_law_wd_is_word (hr.mono (by decide)) (by rfl) (pa_cons pe_int (pa_cons (pv 3) pa_nil))))) (pw_or1 (pt_not (pt_val (pe_def D_is_kind (hr.mono (by decide)) (by rfl) (pa_cons (pv 3) pa_nil))))))))
    (pss_one (ps_ret pe_bl))
    pss_nil)
    (pss_cons (ps_set (i := 4) nd rfl (.inl rfl) (pe_def D_law_pick (hr.mono (by decide)) (by rfl) (pa_cons (pv 0) (pa_cons (pe_lst (pa_cons pe_int (pa_cons pe_int (pa_cons pe_int pa_nil)))) pa_nil))))
    (pss_cons (ps_set (i := 5) nd rfl (.inl rfl) (pe_def D_law_kd_kin (hr.mono (by decide)) (by rfl) (pa_cons (pv 0) (pa_cons (pv 4) (pa_cons (pv 2) pa_nil)))))
    (pss_cons (ps_if (PW.pt (pw_or (pt_cmpR (op_neD (hu64 hr)) (pe_def D_kind_of (hr.mono (by decide)) (by rfl) (pa_cons (pe_branchX (K := K) rfl M T.c_Branch (hr.mono (by decide)) (by rfl) (pa_cons (pv 4) (pa_cons (pv 5) pa_nil))) pa_nil)) (pv 3) (nomark _)) (pw_or (pt_cmpR (op_neD (hu64 hr)) (pe_def D_kind_of (hr.mono (by decide)) (by rfl) (pa_cons (pe_branchX (K := K) rfl M T.c_Branch (hr.mono (by decide)) (by rfl) (pa_cons (pv 4) (pa_cons (pv 3) pa_nil))) pa_nil)) (pv 3) (nomark _)) (pw_or1 (pt_cmpR (op_ne) (pe_def D_is_kind (hr.mono (by decide)) (by rfl) (pa_cons (pv 5) pa_nil)) (pe_cmpR (op_eqD (hu64 hr)) (pv 5) (pv 3) (nomark _)) (nomark _))))))
    (pss_one (ps_ret pe_bl))
    pss_nil)
    (pss_cons (ps_for PassesOwn.never rfl (pi_range1 (by rfl) B.b_range (pa_cons (pe_callB call_len_seq (by rfl) B.b_len (by decide +kernel) (pa_cons (pv 3) pa_nil)) pa_nil)) (pg_name (i := 6) nd rfl (Or.inl rfl))
    (pss_cons (ps_set (i := 7) nd rfl (.inl rfl) (pe_op op_catA (pe_op op_catA (pe_slice sl_tupA (pv 3) po_none (po_some (pv 6))) (pe_tup (pa_cons (pe_op op_sub (pe_ix ix_tup (pv 3) (pv 6) (fun _ _ => rfl)) pe_int) pa_nil))) (pe_slice sl_tupA (pv 3) (po_some (pe_op op_add (pv 6) pe_int)) po_none)))
    (pss_one (ps_if (PW.pt (pw_and (pt_val (pe_def D_law_wd_is_word (hr.mono (by decide)) (by rfl) (pa_cons pe_int (pa_cons (pv 7) pa_nil)))) (pw_and1 (pt_cmpR (op_eqD (hu64 hr)) (pe_def D_law_generators (hr.mono (by decide)) (by rfl) (pa_cons (pv 7) pa_nil)) (pe_def D_law_generators (hr.mono (by decide)) (by rfl) (pa_cons (pv 3) pa_nil)) (nomark _)))))
    (pss_one (ps_ret pe_bl))
    pss_nil))))
    (pss_cons (ps_set (i := 8) nd rfl (.inl rfl) (pe_def D_law_pick (hr.mono (by decide)) (by rfl) (pa_cons (pv 0) (pa_cons (pe_lst (pa_cons pe_non (pa_cons pe_int (pa_cons (pe_callTy call_list_of (by rfl) B.b_list (by decide +kernel) (pa_cons (pv 3) pa_nil)) (pa_cons (pe_op op_catA (pv 3) (pe_tup (pa_cons pe_int pa_nil))) (pa_cons (pe_op op_catA (pv 3) (pe_op op_repT (pe_tup (pa_cons pe_int pa_nil)) pe_int)) (pa_cons (pe_tup (pa_cons pe_int pa_nil)) (pa_cons (pe_tup (pa_cons pe_bl pa_nil)) (pa_cons pe_str (pa_cons (pe_tup (pa_cons (pe_un un_neg pe_int) pa_nil)) (pa_cons pe_dnewK pa_nil))))))))))) pa_nil))))
    (pss_one (ps_ret (pe_not (pe_def D_is_kind (hr.mono (by decide)) (by rfl) (pa_cons (pv 8) pa_nil))))))))))))))), fun Ho a hu => ?_⟩)
  dsimp only [cxK]
  show Sx _ _ [.val .dice, .non, .non, .non, .non, .non, .non, .non, .non, .non] _ _
  refine sq_asgGP (js := [1, 2]) (P := fun d => ∃ (p : Int) (w : List Int), d = .tup [.int p, wd w] ∧ p ∈ [2, 3, 5, 7, 31] ∧ DrawnW p 9 w) (ep_call (AP.mono (ea_cons (ev_var rfl) ea_nil) fun ds e => ⟨(), e, trivial, fun d h => h⟩)) ?_
  rintro d ⟨p, u, rfl, hp, hu⟩
  refine ⟨_, tg_pair, ?_⟩
  have hul : u.length ≤ 9 := hu.1.1
  have hv := hu.2
  have hkl := KM.kindM_le u
  have hpr : p ∈ primes := by
    simp only [List.mem_cons, List.not_mem_nil, or_false] at hp
    rcases hp with rfl | rfl | rfl | rfl | rfl <;> decide
  refine sq_asg (ev_kind (ev_var rfl) (ev_var rfl) (okw hpr hu (by omega))) ?_
  -- the letters, the size
  have f1 : (!decide (([] : List Int) = []) || !decide (((KM.kindM u).length : Int) = KM.kdSize u)) = false := by
    rw [decide_eq_true rfl, decide_eq_true (KM.kd_len hv)]
    rfl
  refine sq_if (k := false) ?_ (fun z => nomatch z) (fun _ => sx_nextS ?_)
  · rw [← f1]
    refine et_or (et_test (ev_op (a := il []) (ev_eq (ev_lc (js := [9]) farL (fun d => d) (iv_tup (ev_var (d := wd (KM.kindM u)) rfl)) (by simp; omega) (by simp) fun d hd => ?_) ?_) (ev_eq (e := il []) (ev_lst ea_nil (by simp)) rfl) rv_neI')) fun _ => et_test (ev_op (ev_cb (ea_cons (ev_var rfl) ea_nil) cv_len_w) (ev_call u (ea_cons (ev_var rfl) ea_nil) (by omega) fun d h => h) rv_neI)
    · obtain ⟨a, ha, rfl⟩ := List.mem_map.mp hd
      exact ⟨_, tg_name, et_test (ev_op (ev_var (d := .int a) rfl) (ev_eq (e := wd [-1, 0, 1]) (ev_tup (ea_cons (ev_neg ev_int) (ea_cons ev_int (ea_cons ev_int ea_nil))) (by simp)) rfl) rv_niT), fun _ => ev_var rfl⟩
    · have e : ((KM.kindM u).map Dv.int).filter farL = [] := by
        rw [List.filter_eq_nil_iff]
        intro d hd
        obtain ⟨a, ha, rfl⟩ := List.mem_map.mp hd
        rcases KM.kind_letters u a ha with rfl | rfl | rfl <;> decide
      rw [e]
      rfl
  -- the generators, a word, a kind
  have f2 : (!decide (KM.gensM (KM.kindM u) = KM.gensM u) || (!KM.wdWord 2 (KM.kindM u) || !isKindM (KM.kindM u))) = false := by
    rw [decide_eq_true (KM.gens_kind hv), kind_word (by decide) u (by omega), kind_is u (by omega)]
    rfl
  refine sq_if (k := false) ?_ (fun z => nomatch z) (fun _ => sx_nextS ?_)
  · rw [← f2]
    exact et_or (et_test (ev_op (ev_call (KM.kindM u) (ea_cons (ev_var rfl) ea_nil) ⟨KM.kind_valid u, by omega⟩ fun d h => h) (ev_call u (ea_cons (ev_var rfl) ea_nil) ⟨hv, by omega⟩ fun d h => h) rv_neW)) fun _ => et_or (et_not (et_B (ev_call (2, KM.kindM u) (ea_cons ev_int (ea_cons (ev_var rfl) ea_nil)) (by dsimp only; omega) fun d h => h))) fun _ => et_not (et_B (ev_isKind (ev_var rfl) (by omega)))
  -- far and kin
  refine sq_asgP (P := fun d => ∃ q : Int, d = .int q ∧ q ∈ primes) (EP.mono (ep_call (P := fun d => d ∈ [Dv.int 2, .int 5, .int 31]) (AP.mono (ea_cons (ev_var rfl) (ea_cons (ev_lst (by walk_at "kd") (by simp)) ea_nil)) fun ds e => ⟨_, e, ⟨by simp, by simp⟩, fun d h => h⟩)) fun d hd => ?_) ?_
  · simp only [List.mem_cons, List.not_mem_nil, or_false] at hd
    rcases hd with rfl | rfl | rfl
    · exact ⟨2, rfl, by decide⟩
    · exact ⟨5, rfl, by decide⟩
    · exact ⟨31, rfl, by decide⟩
  rintro d ⟨q, rfl, hq⟩
  obtain ⟨q2, q31⟩ := prime_le hq
  refine sq_asgP (P := fun d => ∃ kin, d = wd kin ∧ KM.KinOf q u kin) (ep_call (AP.mono (ea_cons (ev_var rfl) (ea_cons (ev_var rfl) (ea_cons (ev_var rfl) ea_nil))) fun ds e => ⟨(q, u), e, ⟨q2, q31, by dsimp only; omega⟩, fun d h => h⟩)) ?_
  rintro d ⟨kin, rfl, hkin⟩
  obtain ⟨k1, k2, k3⟩ := KM.kin_ok q2 hv (by omega) hkin
  have f3 : (!decide (KM.kindM kin = KM.kindM u) || (!decide (KM.kindM (KM.kindM u) = KM.kindM u) || !decide (isKindM kin = decide (kin = KM.kindM u)))) = false := by
    rw [decide_eq_true k1, decide_eq_true (KM.kind_kind u), decide_eq_true (isKind_iff kin u (by omega) k1)]
    rfl
  refine sq_if (k := false) ?_ (fun z => nomatch z) (fun _ => sx_nextS ?_)
  · rw [← f3]
    exact et_or (et_test (ev_op (ev_kind (ev_var rfl) (ev_var rfl) ⟨hq, k2, k3⟩) (ev_var rfl) rv_neW)) fun _ => et_or (et_test (ev_op (ev_kind (ev_var rfl) (ev_var rfl) ⟨hq, kind_word q2 u (by omega), by omega⟩) (ev_var rfl) rv_neW)) fun _ => et_test (ev_op (ev_isKind (ev_var rfl) (by omega)) (ev_op (ev_var rfl) (ev_var rfl) rv_eqW) rv_neB)
  -- lowered letters
  refine sq_for [6] (Py := fun ys => ys = rngD 0 ((KM.kindM u).length : Int).toNat) (iv_rng1 (ea_cons (ev_cb (ea_cons (ev_var rfl) ea_nil) cv_len_w) ea_nil) (by omega) (by omega)) (fun _ i δ => ∃ z6 z7 : Sl, δ = [.val .dice, .val (.int p), .val (wd u), .val (wd (KM.kindM u)), .val (.int q), .val (wd kin), z6, z7, .non, .non]) (fun _ _ => ⟨.non, .non, rfl⟩) ?_ ?_
  · rintro ys i d δ' rfl hd ⟨z6, z7, rfl⟩
    obtain ⟨hi, rfl⟩ := rngD_get hd
    have hi' : i < (KM.kindM u).length := by omega
    have hx := List.getElem?_eq_getElem hi'
    generalize (KM.kindM u)[i] = x at hx
    refine ⟨_, tg_name, ?_⟩
    have e0 : (0 + (i : Nat) : Int) = (i : Int) := by omega
    rw [e0]
    refine sq_asg (d := wd ((KM.kindM u).take i ++ [x - 1] ++ (KM.kindM u).drop (i + 1))) (ev_op (a := wd ((KM.kindM u).take i ++ [x - 1])) (b := wd ((KM.kindM u).drop (i + 1))) (ev_op (a := wd ((KM.kindM u).take i)) (b := wd [x - 1]) (ev_eq (ev_sliceW (ev_var rfl) op_no (op_so (ev_var rfl))) (by rw [cut_to])) (ev_eq (ev_tup (ea_cons (ev_op (ev_op (ev_var rfl) (ev_var rfl) (rv_ixW (atI_nat hx))) ev_int rv_int) ea_nil) (by simp)) rfl) (rv_catW ?_)) (ev_eq (ev_sliceW (ev_var rfl) (op_so (i := ((i + 1 : Nat) : Int)) (ev_eq (ev_op (ev_var rfl) ev_int rv_int) (by rfl))) op_no) (by rw [cut_from])) (rv_catW ?_)) ?_
    · simp
      omega
    · simp
      omega
    · have hno := KM.less_not hul hx
      have hll : ((KM.kindM u).take i ++ [x - 1] ++ (KM.kindM u).drop (i + 1)).length ≤ 100 := by
        simp
        omega
      generalize (KM.kindM u).take i ++ [x - 1] ++ (KM.kindM u).drop (i + 1) = less at hno hll
      have f4 : (KM.wdWord 2 less && decide (KM.gensM less = KM.gensM (KM.kindM u))) = false := by
        rw [← Bool.not_eq_true, Bool.and_eq_true, decide_eq_true_iff]
        exact hno
      refine sx_if (k := false) ?_ (fun z => nomatch z) (fun _ => sx_next ⟨_, _, rfl⟩)
      rw [← f4]
      exact et_and (et_B (ev_call (2, less) (ea_cons ev_int (ea_cons (ev_var rfl) ea_nil)) hll fun d h => h)) fun hk => et_test (ev_op (ev_call less (ea_cons (ev_var rfl) ea_nil) ⟨(KM.wdWord_valid hk).1, hll⟩ fun d h => h) (ev_call (KM.kindM u) (ea_cons (ev_var rfl) ea_nil) ⟨KM.kind_valid u, by omega⟩ fun d h => h) rv_eqW)
  · rintro ys δ' rfl ⟨z6, z7, rfl⟩
    -- an odd value
    refine sq_asgP (P := NoKind) (EP.mono (ep_call (P := fun d => d ∈ [Dv.non, .int 0, il (KM.kindM u), wd (KM.kindM u ++ [0]), wd (KM.kindM u ++ [1, 1]), wd [2], .tup [.bl true], .str "0 t 1", wd [-1], .dct]) (AP.mono (ea_cons (ev_var rfl) (ea_cons (ev_lst (ds := [Dv.non, .int 0, il (KM.kindM u), wd (KM.kindM u ++ [0]), wd (KM.kindM u ++ [1, 1]), wd [2], .tup [.bl true], .str "0 t 1", wd [-1], .dct]) (ea_cons ev_non (ea_cons ev_int (ea_cons (ev_cb (ea_cons (ev_var (d := wd (KM.kindM u)) rfl) ea_nil) cv_list_t) (ea_cons (ev_op (ev_var rfl) (ev_eq (e := wd [0]) (ev_tup (ea_cons ev_int ea_nil) (by simp)) rfl) (rv_catW ?_)) (ea_cons (ev_op (ev_var rfl) (ev_eq (e := wd [1, 1]) (ev_op (ev_tup (ea_cons ev_int ea_nil) (by simp)) ev_int (rv_repT1 (by decide) (by decide))) rfl) (rv_catW ?_)) (ea_cons (ev_eq (e := wd [2]) (ev_tup (ea_cons ev_int ea_nil) (by simp)) rfl) (ea_cons (ev_tup (ea_cons ev_bl ea_nil) (by simp)) (ea_cons ev_str (ea_cons (ev_eq (e := wd [-1]) (ev_tup (ea_cons (ev_neg ev_int) ea_nil) (by simp)) rfl) (ea_cons ev_dct ea_nil)))))))))) (by simp)) ea_nil)) fun ds e => ⟨_, e, ⟨by simp, by simp⟩, fun d h => h⟩)) fun d hd => odd_all hul d hd) ?_
    · simp
      omega
    · simp
      omega
    · rintro d ⟨hd1, hd2⟩
      exact sx_ret (d := .bl (!false)) (ev_notV (EP.mono (ep_call (P := fun r => r = .bl false) (AP.mono (ea_cons (ev_var rfl) ea_nil) fun ds e => ⟨d, e, hd1, fun r h => hd2 r h⟩)) fun r h => h)) rfl
end
end KD
set_option Elab.async false
set_option linter.all false
set_option maxRecDepth 100000
set_option maxHeartbeats 4000000
namespace KD
open PySem PySem.Spec PyProof.Rows L2
open Evl (Ex Ex.refl Ex.trans Ex.new Ex.mut ex_l ex_t fresh_back)

local macro_rules | `(tactic| walk_at "kr") => `(tactic| first
  | with_reducible exact rv_int | with_reducible exact rv_bool | with_reducible exact rv_eqI | with_reducible exact rv_neI | with_reducible exact rv_eqW | with_reducible exact rv_neW | with_reducible exact rv_isN | with_reducible exact rv_notN
  | with_reducible exact rv_eqI' | with_reducible exact rv_neI' | with_reducible exact rv_eqL | with_reducible exact rv_neL | with_reducible exact rv_ltW | with_reducible exact rv_inI | with_reducible exact rv_niI | with_reducible exact rv_inT | with_reducible exact rv_niT | with_reducible exact rv_eqB | with_reducible exact rv_neB | with_reducible exact rv_eqS | with_reducible exact rv_neS)
local macro_rules | `(tactic| walk_at "kd") => `(tactic| first
  | ((with_reducible apply ev_var); rfl)
  | with_reducible exact ev_int | with_reducible exact ev_bl | with_reducible exact ev_non | with_reducible exact ev_str
  | ((with_reducible apply ev_neg); walk_at "kd")
  | ((with_reducible apply ev_op); walk_at "kd"; walk_at "kd"; walk_at "kr")
  | ((with_reducible apply et_test); walk_at "kd")
  | ((with_reducible apply et_B); walk_at "kd")
  | ((with_reducible apply et_not); walk_at "kd")
  | ((with_reducible apply ev_notV); walk_at "kd")
  | ((with_reducible apply ev_cb); walk_at "kd"; first | with_reducible exact cv_len_w | with_reducible exact cv_len_il | with_reducible exact cv_len_wds | with_reducible exact cv_len_t | with_reducible exact cv_len_l | with_reducible exact cv_tuple_l | with_reducible exact cv_tuple_t | with_reducible exact cv_list_l | with_reducible exact cv_list_t | with_reducible exact cv_len_s | with_reducible exact cv_abs | with_reducible exact cv_int | with_reducible exact cv_intb | with_reducible exact cv_max2 | with_reducible exact cv_min2 | with_reducible exact cv_all)
  | with_reducible exact ea_nil
  | ((with_reducible apply ea_cons); walk_at "kd"; walk_at "kd")
  | ((with_reducible apply ev_tup); walk_at "kd"; (first | decide | (simp; done) | (simp; omega)))
  | ((with_reducible apply ev_lst); walk_at "kd"; (first | decide | (simp; done) | (simp; omega)))
  | ((with_reducible apply ev_sliceW); walk_at "kd"; walk_at "ko"; walk_at "ko")
  | ((with_reducible apply ev_sliceI); walk_at "kd"; walk_at "ko"; walk_at "ko")
  | ((with_reducible apply ev_sliceT); walk_at "kd"; walk_at "ko"; walk_at "ko")
  | ((with_reducible apply ev_sliceL); walk_at "kd"; walk_at "ko"; walk_at "ko")
  | ((with_reducible apply ev_revL); walk_at "kd"))
local macro_rules | `(tactic| walk_at "ko") => `(tactic| first | with_reducible exact op_no | ((with_reducible apply op_so); walk_at "kd"))

section
variable {P : Program} {w : World} {K : PySem.W.Frag} {mg : Str → Option Value} {base : Heap} {C : Addr}

abbrev spTrue (K : PySem.W.Frag) (C : Addr) : Sp := spF ⟨K, C⟩ (fun _ : Unit => [.dice]) (fun _ => True) (fun _ r => r = .bl true)
/-- the six words that the law tells of -/
def toldW : List (List Int) := [[], [-1], [1, 1], [0, -1, 1], [0, 0, -1, 0, 1], [0, -1, 1, -1, 1]]
def toldK : Dv → Dv
  | .tup l => wd (KM.kindM (l.map fun d => match d with | .int a => a | _ => 0))
  | d => d
theorem toldK_wd (u : List Int) : toldK (wd u) = wd (KM.kindM u) := by
  show wd (KM.kindM ((u.map Dv.int).map _)) = _
  rw [List.map_map]
  have e : ((fun d => match d with | .int a => a | _ => 0) ∘ Dv.int : Int → Int) = id := rfl
  rw [e, List.map_id]
abbrev spLaw (K : PySem.W.Frag) (C : Addr) : Sp := spF ⟨K, C⟩ (fun ns : List Int => [.scr ns]) (fun ns => ns.length ≤ 1000) (fun _ r => r = .bl true)
abbrev s_law : Stmt := topS 61
theorem sc_law : FnScope ["_law_script", "_law_spot", "_law_dice_here", "_law_turn", "_law_told", "_law_word"] ["_law_script"] (defScope s_law) := ⟨rfl, rfl, rfl, by decide +kernel, rfl, by decide +kernel, by decide +kernel⟩
theorem d_law (B : Bl mg) (T : Cs K mg C) (M : Made P w K mg base C 5) {f : Addr} {fd : FuncData} (F : Fun K "law" "law" s_law f fd)
    (D_law_dice : Def P w K mg base 1 "_law_dice" ["_law_script", "_law_spot"] (spF ⟨K, C⟩ (fun a : List Int × Nat => [.scr a.1, .int a.2]) (fun _ => True) (fun _ d => d = .dice)))
    (D_law_is_by_all : Def P w K mg base 7 "_law_is_by_all" ["_law_dice_here"] (spTrue K C)) (D_law_is_right : Def P w K mg base 7 "_law_is_right" ["_law_dice_here"] (spTrue K C))
    (D_kind_of : Def P w K mg base 3 "kind_of" ["branch"] (spKindOf K C)) :
    FnOk P w K mg base CX0 8 f fd ["_law_script"] (spLaw K C) := by
  refine fn_ok F sc_law (fun _ => rfl) (fun cdv A outer s H E hr => ⟨_, (have nd := sc_law.nd; (pss_cons (ps_for PassesOwn.never rfl (pi_range1 (by rfl) B.b_range (pa_cons (pe_callB (call_max2 rfl) (by rfl) B.b_max (by decide +kernel) (pa_cons pe_int (pa_cons (pe_callB (call_min2 rfl) (by rfl) B.b_min (by decide +kernel) (pa_cons pe_int (pa_cons (pe_callB call_len_seq (by rfl) B.b_len (by decide +kernel) (pa_cons (pv 0) pa_nil)) pa_nil))) pa_nil))) pa_nil)) (pg_name (i := 1) nd rfl (Or.inl rfl))
    (pss_cons (ps_set (i := 2) nd rfl (.inl rfl) (pe_def D_law_dice (hr.mono (by decide)) (by rfl) (pa_cons (pv 0) (pa_cons (pv 1) pa_nil))))
    (pss_one (ps_for PassesOwn.never rfl (pi_range1 (by rfl) B.b_range (pa_cons pe_int pa_nil)) (pg_name (i := 3) nd rfl (Or.inl rfl))
    (pss_one (ps_if (PW.pt (pw_or (pt_not (pt_val (pe_def D_law_is_by_all (hr.mono (by decide)) (by rfl) (pa_cons (pv 2) pa_nil)))) (pw_or1 (pt_not (pt_val (pe_def D_law_is_right (hr.mono (by decide)) (by rfl) (pa_cons (pv 2) pa_nil)))))))
    (pss_one (ps_ret pe_bl))
    pss_nil))))))
    (pss_cons (ps_setLc (i := 4) (own := [("_law_word", 5)]) (g := gName 5) (tt := tYes) rfl nd rfl rfl (sw_true rfl rfl rfl (by decide +kernel)) (pi_tup (pe_tup (pa_cons (pe_tup pa_nil) (pa_cons (pe_tup (pa_cons (pe_un un_neg pe_int) pa_nil)) (pa_cons (pe_tup (pa_cons pe_int (pa_cons pe_int pa_nil))) (pa_cons (pe_tup (pa_cons pe_int (pa_cons (pe_un un_neg pe_int) (pa_cons pe_int pa_nil)))) (pa_cons (pe_tup (pa_cons pe_int (pa_cons pe_int (pa_cons (pe_un un_neg pe_int) (pa_cons pe_int (pa_cons pe_int pa_nil)))))) (pa_cons (pe_tup (pa_cons pe_int (pa_cons (pe_un un_neg pe_int) (pa_cons pe_int (pa_cons (pe_un un_neg pe_int) (pa_cons pe_int pa_nil)))))) pa_nil)))))))) (blkOk_by (own := [("_law_word", 5)]) (N := ["_law_script", "_law_spot", "_law_dice_here", "_law_turn", "_law_told", "_law_word"]) (sc := defScope s_law) (by decide +kernel)) (fun _ _ _ _ _ => pg_name (i := 5) nd rfl (Or.inl rfl)) (fun _ _ _ _ _ => pts_nil) (fun _ _ _ _ _ => (pe_def D_kind_of (hr.mono (by decide)) (by rfl) (pa_cons (pe_branchX (K := K) rfl M T.c_Branch (hr.mono (by decide)) (by rfl) (pa_cons pe_int (pa_cons (pv 5) pa_nil))) pa_nil))))
    (pss_one (ps_ret (pe_cmpR (op_eqD (hu64 hr)) (pv 4) (pe_lst (pa_cons (pe_tup pa_nil) (pa_cons (pe_tup pa_nil) (pa_cons (pe_tup pa_nil) (pa_cons (pe_tup (pa_cons (pe_un un_neg pe_int) (pa_cons (pe_un un_neg pe_int) (pa_cons pe_int pa_nil)))) (pa_cons (pe_tup (pa_cons (pe_un un_neg pe_int) (pa_cons pe_int (pa_cons (pe_un un_neg pe_int) (pa_cons pe_int (pa_cons pe_int pa_nil)))))) (pa_cons (pe_tup (pa_cons (pe_un un_neg pe_int) (pa_cons (pe_un un_neg pe_int) (pa_cons pe_int (pa_cons (pe_un un_neg pe_int) (pa_cons pe_int pa_nil)))))) pa_nil))))))) (nomark _))))))), fun Ho ns hu => ?_⟩)
  dsimp only [cxK]
  show Sx _ _ [.val (.scr ns), .non, .non, .non, .non, .non] _ _
  have hb : ∀ k : Int, k = (if (if (ns.length : Int) < 3 then (ns.length : Int) else 3) > 1 then (if (ns.length : Int) < 3 then (ns.length : Int) else 3) else 1) → 1 ≤ k ∧ k ≤ 3 := fun k e => by
    subst e
    split
    · split <;> omega
    · omega
  obtain ⟨b1, b3⟩ := hb _ rfl
  refine sq_for [1] (Py := fun ys => ys = rngD 0 (if (if (ns.length : Int) < 3 then (ns.length : Int) else 3) > 1 then (if (ns.length : Int) < 3 then (ns.length : Int) else 3) else 1 : Int).toNat) (iv_rng1 (ea_cons (ev_cb (ea_cons ev_int (ea_cons (ev_cb (ea_cons ev_int (ea_cons (ev_cb (ea_cons (ev_var rfl) ea_nil) cv_len_scr) ea_nil)) cv_min2) ea_nil)) cv_max2) ea_nil) (by omega) (by omega)) (fun _ i δ => ∃ z1 z2 z3 : Sl, δ = [.val (.scr ns), z1, z2, z3, .non, .non]) (fun _ _ => ⟨.non, .non, .non, rfl⟩) ?_ ?_
  · rintro ys i d δ' rfl hd ⟨z1, z2, z3, rfl⟩
    obtain ⟨hi, rfl⟩ := rngD_get hd
    have hz : (0 + (i : Nat) : Int) = (i : Int) := by omega
    rw [hz]
    refine ⟨_, tg_name, sq_asg (ev_call (ns, i) (ea_cons (ev_var rfl) (ea_cons (ev_var rfl) ea_nil)) trivial fun d h => h) ?_⟩
    refine sx_for [3] (Py := fun ys => ys = rngD 0 (2 : Int).toNat) (iv_rng1 (ea_cons ev_int ea_nil) (by decide) (by decide)) (fun _ _ δ => ∃ z3 : Sl, δ = [.val (.scr ns), .val (.int (i : Int)), .val .dice, z3, .non, .non]) (fun _ _ => ⟨z3, rfl⟩) ?_ ?_
    · rintro ys j d δ' rfl hd ⟨z3, rfl⟩
      refine ⟨_, tg_name, ?_⟩
      have f0 : (!true || !true) = false := rfl
      refine sx_if (k := false) ?_ (fun z => nomatch z) (fun _ => sx_next ⟨_, rfl⟩)
      rw [← f0]
      exact et_or (et_not (et_B (ev_call () (ea_cons (ev_var rfl) ea_nil) trivial fun d h => h))) fun _ => et_not (et_B (ev_call () (ea_cons (ev_var rfl) ea_nil) trivial fun d h => h))
    · rintro ys δ' rfl ⟨z3, rfl⟩
      exact ⟨_, _, _, rfl⟩
  · rintro ys δ' rfl ⟨z1, z2, z3, rfl⟩
    refine sq_asg (d := wds (toldW.map KM.kindM)) (ev_eq (ev_lcA (js := [5]) toldK (iv_tup (ev_eq (e := .tup (toldW.map wd)) (ev_tup (ea_cons (ev_eq (e := wd []) (ev_tup ea_nil (by simp)) rfl) (ea_cons (ev_eq (e := wd [-1]) (ev_tup (ea_cons (ev_neg ev_int) ea_nil) (by simp)) rfl) (ea_cons (ev_eq (e := wd [1, 1]) (ev_tup (ea_cons ev_int (ea_cons ev_int ea_nil)) (by simp)) rfl) (ea_cons (ev_eq (e := wd [0, -1, 1]) (ev_tup (ea_cons ev_int (ea_cons (ev_neg ev_int) (ea_cons ev_int ea_nil))) (by simp)) rfl) (ea_cons (ev_eq (e := wd [0, 0, -1, 0, 1]) (ev_tup (ea_cons ev_int (ea_cons ev_int (ea_cons (ev_neg ev_int) (ea_cons ev_int (ea_cons ev_int ea_nil))))) (by simp)) rfl) (ea_cons (ev_eq (e := wd [0, -1, 1, -1, 1]) (ev_tup (ea_cons ev_int (ea_cons (ev_neg ev_int) (ea_cons ev_int (ea_cons (ev_neg ev_int) (ea_cons ev_int ea_nil))))) (by simp)) rfl) ea_nil)))))) (by simp)) rfl)) (by decide) (by simp) fun d hd => ?_) ?_) ?_
    · obtain ⟨u, hu, rfl⟩ := List.mem_map.mp hd
      refine ⟨_, tg_name, ?_⟩
      rw [toldK_wd]
      refine ev_kind ev_int (ev_var rfl) ⟨by decide, ?_, ?_⟩
      · simp only [toldW, List.mem_cons, List.not_mem_nil, or_false] at hu
        rcases hu with rfl | rfl | rfl | rfl | rfl | rfl <;> decide
      · simp only [toldW, List.mem_cons, List.not_mem_nil, or_false] at hu
        rcases hu with rfl | rfl | rfl | rfl | rfl | rfl <;> decide
    · rw [List.map_map]
      show Dv.lst (toldW.map fun u => toldK (wd u)) = Dv.lst ((toldW.map KM.kindM).map wd)
      rw [List.map_map]
      exact congrArg Dv.lst (List.map_congr_left fun u _ => toldK_wd u)
    · refine sx_ret (d := .bl (decide (toldW.map KM.kindM = [[], [], [], [-1, -1, 1], [-1, 0, -1, 0, 1], [-1, -1, 1, -1, 1]]))) (ev_op (ev_var rfl) (ev_eq (e := wds [[], [], [], [-1, -1, 1], [-1, 0, -1, 0, 1], [-1, -1, 1, -1, 1]]) (ev_lst (ea_cons (ev_eq (e := wd []) (ev_tup ea_nil (by simp)) rfl) (ea_cons (ev_eq (e := wd []) (ev_tup ea_nil (by simp)) rfl) (ea_cons (ev_eq (e := wd []) (ev_tup ea_nil (by simp)) rfl) (ea_cons (ev_eq (e := wd [-1, -1, 1]) (ev_tup (ea_cons (ev_neg ev_int) (ea_cons (ev_neg ev_int) (ea_cons ev_int ea_nil))) (by simp)) rfl) (ea_cons (ev_eq (e := wd [-1, 0, -1, 0, 1]) (ev_tup (ea_cons (ev_neg ev_int) (ea_cons ev_int (ea_cons (ev_neg ev_int) (ea_cons ev_int (ea_cons ev_int ea_nil))))) (by simp)) rfl) (ea_cons (ev_eq (e := wd [-1, -1, 1, -1, 1]) (ev_tup (ea_cons (ev_neg ev_int) (ea_cons (ev_neg ev_int) (ea_cons ev_int (ea_cons (ev_neg ev_int) (ea_cons ev_int ea_nil))))) (by simp)) rfl) ea_nil)))))) (by simp)) rfl) rv_eqL) ?_
      rw [decide_eq_true]
      exact KM.told
end
end KD
set_option Elab.async false
set_option linter.all false
set_option maxRecDepth 100000
set_option maxHeartbeats 4000000
namespace KD
open PySem PySem.Spec PyProof.Rows L2
open Evl (Ex Ex.refl Ex.trans Ex.new Ex.mut ex_l ex_t fresh_back)
/-- the law's promise, at the written part alone -/
def spLawK (K : PySem.W.Frag) : Sp := fun vs H Q _ => ∃ (a : Addr) (ns : List Int), vs = [.ref a] ∧ SqL K H a (ns.map V.int) ∧ ns.length ≤ 63 ∧ ∀ H', Q (.bl true) H'
section
variable {P : Program} {w : World} {K : PySem.W.Frag} {mg : Str → Option Value} {base : Heap} {C : Addr}
theorem all_ok (B : Bl mg) (T : Cs K mg C) (Q : Bc K C) (hI : HereI K C s_Branch___init__) {f : Addr} {fd : FuncData} (hL : Fun K "law" "law" s_law f fd)
    (h_law_second : Here K mg "_law_second" s_law_second ["_law_point"])
    (h_law_nears : Here K mg "_law_nears" s_law_nears ["_law_point"])
    (h_law_corner_heights : Here K mg "_law_corner_heights" s_law_corner_heights ["_law_word"])
    (h_law_orders : Here K mg "_law_orders" s_law_orders ["_law_word"])
    (h_law_counts : Here K mg "_law_counts" s_law_counts ["_law_word", "_law_size"])
    (h_law_generators : Here K mg "_law_generators" s_law_generators ["_law_word"])
    (h_law_kd_size : Here K mg "_law_kd_size" s_law_kd_size ["_law_word"])
    (h_law_wd_is_point : Here K mg "_law_wd_is_point" s_law_wd_is_point ["_law_prime", "_law_value"])
    (h_law_wd_is_word : Here K mg "_law_wd_is_word" s_law_wd_is_word ["_law_prime", "_law_value"])
    (h_law_wd_all : Here K mg "_law_wd_all" s_law_wd_all ["_law_prime", "_law_length"])
    (h_law_least : Here K mg "_law_least" s_law_least ["_law_prime", "_law_word"])
    (h_law_dice : Here K mg "_law_dice" s_law_dice ["_law_script", "_law_spot"])
    (h_law_roll : Here K mg "_law_roll" s_law_roll ["_law_dice_here", "_law_total"])
    (h_law_pick : Here K mg "_law_pick" s_law_pick ["_law_dice_here", "_law_items"])
    (h_law_letter : Here K mg "_law_letter" s_law_letter ["_law_dice_here", "_law_prime"])
    (h_law_point_drawn : Here K mg "_law_point_drawn" s_law_point_drawn ["_law_dice_here", "_law_prime", "_law_most"])
    (h_law_word_drawn : Here K mg "_law_word_drawn" s_law_word_drawn ["_law_dice_here", "_law_prime", "_law_most"])
    (h_law_wd_pair : Here K mg "_law_wd_pair" s_law_wd_pair ["_law_dice_here"])
    (h_law_kd_kin : Here K mg "_law_kd_kin" s_law_kd_kin ["_law_dice_here", "_law_prime", "_law_word"])
    (h_is_whole : Here K mg "is_whole" s_is_whole ["value"])
    (h_is_integer : Here K mg "is_integer" s_is_integer ["value"])
    (h_is_prime : Here K mg "is_prime" s_is_prime ["value"])
    (h_require_prime : Here K mg "require_prime" s_require_prime ["value"])
    (h_is_letter : Here K mg "is_letter" s_is_letter ["prime", "value"])
    (h_are_letters : Here K mg "are_letters" s_are_letters ["prime", "value"])
    (h_ends_as_word : Here K mg "ends_as_word" s_ends_as_word ["point"])
    (h_letters_text : Here K mg "letters_text" s_letters_text ["point"])
    (h_require_branch : Here K mg "require_branch" s_require_branch ["value"])
    (h_forms_of : Here K mg "forms_of" s_forms_of ["word"])
    (h_least_letter : Here K mg "least_letter" s_least_letter ["form", "letter"])
    (h_kind_in : Here K mg "kind_in" s_kind_in ["word"])
    (h_kind_of : Here K mg "kind_of" s_kind_of ["branch"])
    (h_is_kind_word : Here K mg "is_kind_word" s_is_kind_word ["value"])
    (h_is_kind : Here K mg "is_kind" s_is_kind ["value"])
    (h_law_is_by_all : Here K mg "_law_is_by_all" s_law_is_by_all ["_law_dice_here"])
    (h_law_is_right : Here K mg "_law_is_right" s_law_is_right ["_law_dice_here"]) : FnOk P w K mg base CX0 8 f fd ["_law_script"] (spLawK K) := by
  have D_law_second := d_second (P := P) (w := w) (base := base) (C := C) (B := B) (F := h_law_second)
  have D_law_nears := d_nears (P := P) (w := w) (base := base) (C := C) (B := B) (F := h_law_nears) (D_law_second := D_law_second)
  have D_law_corner_heights := d_corners (P := P) (w := w) (base := base) (C := C) (B := B) (F := h_law_corner_heights) (D_law_nears := D_law_nears)
  have D_law_orders := d_orders (P := P) (w := w) (base := base) (C := C) (B := B) (F := h_law_orders)
  have D_law_counts := d_counts (P := P) (w := w) (base := base) (C := C) (B := B) (F := h_law_counts) (D_law_orders := D_law_orders)
  have D_law_generators := d_generators (P := P) (w := w) (base := base) (C := C) (B := B) (F := h_law_generators) (D_law_counts := D_law_counts) (D_law_corner_heights := D_law_corner_heights)
  have D_law_kd_size := d_kd_size (P := P) (w := w) (base := base) (C := C) (B := B) (F := h_law_kd_size) (D_law_corner_heights := D_law_corner_heights)
  have D_law_wd_is_point := d_wd_is_point (P := P) (w := w) (base := base) (C := C) (B := B) (F := h_law_wd_is_point)
  have D_law_wd_is_word := d_wd_is_word (P := P) (w := w) (base := base) (C := C) (B := B) (F := h_law_wd_is_word) (D_law_wd_is_point := D_law_wd_is_point)
  have D_law_wd_all := d_wd_all (P := P) (w := w) (base := base) (C := C) (B := B) (F := h_law_wd_all)
  have D_law_least := d_least (P := P) (w := w) (base := base) (C := C) (B := B) (F := h_law_least) (D_law_generators := D_law_generators) (D_law_wd_all := D_law_wd_all)
  have D_law_dice := d_dice (P := P) (w := w) (base := base) (C := C) (B := B) (F := h_law_dice)
  have D_law_roll := d_roll (P := P) (w := w) (base := base) (C := C) (B := B) (F := h_law_roll)
  have D_law_pick := d_pick (P := P) (w := w) (base := base) (C := C) (B := B) (F := h_law_pick) (D_law_roll := D_law_roll)
  have D_law_letter := d_letter (P := P) (w := w) (base := base) (C := C) (B := B) (F := h_law_letter) (D_law_roll := D_law_roll)
  have D_law_point_drawn := d_point_drawn (P := P) (w := w) (base := base) (C := C) (B := B) (F := h_law_point_drawn) (D_law_roll := D_law_roll) (D_law_letter := D_law_letter)
  have D_law_word_drawn := d_word_drawn (P := P) (w := w) (base := base) (C := C) (B := B) (F := h_law_word_drawn) (D_law_roll := D_law_roll) (D_law_pick := D_law_pick) (D_law_point_drawn := D_law_point_drawn)
  have D_law_wd_pair := d_wd_pair (P := P) (w := w) (base := base) (C := C) (B := B) (F := h_law_wd_pair) (D_law_pick := D_law_pick) (D_law_word_drawn := D_law_word_drawn)
  have D_law_kd_kin := d_kd_kin (P := P) (w := w) (base := base) (C := C) (B := B) (F := h_law_kd_kin) (D_law_roll := D_law_roll) (D_law_corner_heights := D_law_corner_heights) (D_law_kd_size := D_law_kd_size)
  have D_is_whole := d_is_whole (P := P) (w := w) (base := base) (C := C) (B := B) (F := h_is_whole)
  have D_is_integer := d_is_integer (P := P) (w := w) (base := base) (C := C) (B := B) (T := T) (F := h_is_integer) (D_is_whole := D_is_whole)
  have D_is_prime := d_is_prime (P := P) (w := w) (base := base) (C := C) (B := B) (T := T) (F := h_is_prime) (D_is_whole := D_is_whole)
  have D_require_prime := d_require_prime (P := P) (w := w) (base := base) (C := C) (B := B) (T := T) (F := h_require_prime) (D_is_prime := D_is_prime)
  have D_is_letter := d_is_letter (P := P) (w := w) (base := base) (C := C) (B := B) (T := T) (F := h_is_letter) (D_is_integer := D_is_integer)
  have D_are_letters := d_are_letters (P := P) (w := w) (base := base) (C := C) (B := B) (T := T) (F := h_are_letters) (D_is_letter := D_is_letter)
  have D_ends_as_word := d_ends_as_word (P := P) (w := w) (base := base) (C := C) (B := B) (T := T) (F := h_ends_as_word)
  have D_letters_text := d_letters_text (P := P) (w := w) (base := base) (C := C) (B := B) (T := T) (F := h_letters_text)
  have D_require_branch := d_require_branch (P := P) (w := w) (base := base) (C := C) (B := B) (T := T) (Q := Q) (F := h_require_branch)
  have D_forms_of := d_forms_of (P := P) (w := w) (base := base) (C := C) (B := B) (T := T) (F := h_forms_of)
  have D_least_letter := d_least_letter (P := P) (w := w) (base := base) (C := C) (B := B) (T := T) (F := h_least_letter)
  have D_kind_in := d_kind_in (P := P) (w := w) (base := base) (C := C) (B := B) (T := T) (F := h_kind_in) (D_forms_of := D_forms_of) (D_least_letter := D_least_letter)
  have D_kind_of := d_kind_of (P := P) (w := w) (base := base) (C := C) (B := B) (T := T) (Q := Q) (F := h_kind_of) (D_require_branch := D_require_branch) (D_kind_in := D_kind_in)
  have D_is_kind_word := d_is_kind_word (P := P) (w := w) (base := base) (C := C) (B := B) (T := T) (F := h_is_kind_word) (D_are_letters := D_are_letters) (D_ends_as_word := D_ends_as_word) (D_kind_in := D_kind_in)
  have D_is_kind := d_is_kind (P := P) (w := w) (base := base) (C := C) (B := B) (T := T) (F := h_is_kind) (D_is_kind_word := D_is_kind_word)
  have M : Made P w K mg base C 5 := d_init (B := B) (T := T) (Q := Q) (F := hI) (D_require_prime := D_require_prime) (D_are_letters := D_are_letters) (D_ends_as_word := D_ends_as_word) (D_letters_text := D_letters_text)
  have D_law_is_by_all := d_is_by_all (P := P) (w := w) (base := base) (C := C) (B := B) (T := T) (M := M) (F := h_law_is_by_all) (D_law_pick := D_law_pick) (D_law_word_drawn := D_law_word_drawn) (D_kind_of := D_kind_of) (D_is_kind := D_is_kind) (D_law_least := D_law_least)
  have D_law_is_right := d_is_right (P := P) (w := w) (base := base) (C := C) (B := B) (T := T) (M := M) (F := h_law_is_right) (D_law_pick := D_law_pick) (D_law_wd_pair := D_law_wd_pair) (D_law_kd_size := D_law_kd_size) (D_law_generators := D_law_generators) (D_law_wd_is_word := D_law_wd_is_word) (D_law_kd_kin := D_law_kd_kin) (D_kind_of := D_kind_of) (D_is_kind := D_is_kind)
  refine (d_law (P := P) (w := w) (base := base) (C := C) B T M hL D_law_dice D_law_is_by_all D_law_is_right D_kind_of).imp fun vs H Q E h => ?_
  obtain ⟨a, ns, rfl, hs, hl, q⟩ := h
  exact ⟨ns, H, .cons (.scr hs) .nil, Ex.refl _, by omega, fun v d Hs' H' st rd rv => by
    subst rd
    cases rv
    exact q H'⟩
end
theorem here_mk {K : PySem.W.Frag} {h : Heap} {mg : Str → Option Value} {x : Str} {st : Stmt} {ps : List Str} {f : Addr} {oc : Value} {od an : Option Addr} {osl : Array (Option Value)} {kV doc pm cdv ct : Value} (X : K.In h) (G : h.Ns mainGlobals mg)
    (a : PySem.W.nsIn K mainGlobals x = some (some (.ref f))) (l : K.lookup f = some ⟨oc, od, .func (PySem.W.fnOf x x (defArgs st) (defBody st) (defScope st) .none kV doc pm an cdv ct), osl⟩) (c : PySem.W.codeIn K cdv x = true) (k : PySem.W.keepIn K (.ref f) = true)
    (hb : ∀ (kV doc pm : Value) (an : Option Addr) (cdv ct : Value) (us : List Value), us.length = ps.length → bindArgs (PySem.W.fnOf x x (defArgs st) (defBody st) (defScope st) .none kV doc pm an cdv ct) ⟨us, []⟩ = pure (ps.zip us)) : Here K mg x st ps :=
  ⟨f, _, fun_mk l c k, PySem.W.mg_of X G a, (fun_mk l c k).binds hb⟩
theorem hb_law_second : ∀ (kV doc pm : Value) (an : Option Addr) (cdv ct : Value) (us : List Value), us.length = (["_law_point"] : List Str).length → bindArgs (PySem.W.fnOf "_law_second" "_law_second" (defArgs s_law_second) (defBody s_law_second) (defScope s_law_second) .none kV doc pm an cdv ct) ⟨us, []⟩ = pure ((["_law_point"] : List Str).zip us) := fun _ _ _ _ _ _ us hl => match us, hl with | [_], _ => rfl
theorem hb_law_nears : ∀ (kV doc pm : Value) (an : Option Addr) (cdv ct : Value) (us : List Value), us.length = (["_law_point"] : List Str).length → bindArgs (PySem.W.fnOf "_law_nears" "_law_nears" (defArgs s_law_nears) (defBody s_law_nears) (defScope s_law_nears) .none kV doc pm an cdv ct) ⟨us, []⟩ = pure ((["_law_point"] : List Str).zip us) := fun _ _ _ _ _ _ us hl => match us, hl with | [_], _ => rfl
theorem hb_law_corner_heights : ∀ (kV doc pm : Value) (an : Option Addr) (cdv ct : Value) (us : List Value), us.length = (["_law_word"] : List Str).length → bindArgs (PySem.W.fnOf "_law_corner_heights" "_law_corner_heights" (defArgs s_law_corner_heights) (defBody s_law_corner_heights) (defScope s_law_corner_heights) .none kV doc pm an cdv ct) ⟨us, []⟩ = pure ((["_law_word"] : List Str).zip us) := fun _ _ _ _ _ _ us hl => match us, hl with | [_], _ => rfl
theorem hb_law_orders : ∀ (kV doc pm : Value) (an : Option Addr) (cdv ct : Value) (us : List Value), us.length = (["_law_word"] : List Str).length → bindArgs (PySem.W.fnOf "_law_orders" "_law_orders" (defArgs s_law_orders) (defBody s_law_orders) (defScope s_law_orders) .none kV doc pm an cdv ct) ⟨us, []⟩ = pure ((["_law_word"] : List Str).zip us) := fun _ _ _ _ _ _ us hl => match us, hl with | [_], _ => rfl
theorem hb_law_counts : ∀ (kV doc pm : Value) (an : Option Addr) (cdv ct : Value) (us : List Value), us.length = (["_law_word", "_law_size"] : List Str).length → bindArgs (PySem.W.fnOf "_law_counts" "_law_counts" (defArgs s_law_counts) (defBody s_law_counts) (defScope s_law_counts) .none kV doc pm an cdv ct) ⟨us, []⟩ = pure ((["_law_word", "_law_size"] : List Str).zip us) := fun _ _ _ _ _ _ us hl => match us, hl with | [_, _], _ => rfl
theorem hb_law_generators : ∀ (kV doc pm : Value) (an : Option Addr) (cdv ct : Value) (us : List Value), us.length = (["_law_word"] : List Str).length → bindArgs (PySem.W.fnOf "_law_generators" "_law_generators" (defArgs s_law_generators) (defBody s_law_generators) (defScope s_law_generators) .none kV doc pm an cdv ct) ⟨us, []⟩ = pure ((["_law_word"] : List Str).zip us) := fun _ _ _ _ _ _ us hl => match us, hl with | [_], _ => rfl
theorem hb_law_kd_size : ∀ (kV doc pm : Value) (an : Option Addr) (cdv ct : Value) (us : List Value), us.length = (["_law_word"] : List Str).length → bindArgs (PySem.W.fnOf "_law_kd_size" "_law_kd_size" (defArgs s_law_kd_size) (defBody s_law_kd_size) (defScope s_law_kd_size) .none kV doc pm an cdv ct) ⟨us, []⟩ = pure ((["_law_word"] : List Str).zip us) := fun _ _ _ _ _ _ us hl => match us, hl with | [_], _ => rfl
theorem hb_law_wd_is_point : ∀ (kV doc pm : Value) (an : Option Addr) (cdv ct : Value) (us : List Value), us.length = (["_law_prime", "_law_value"] : List Str).length → bindArgs (PySem.W.fnOf "_law_wd_is_point" "_law_wd_is_point" (defArgs s_law_wd_is_point) (defBody s_law_wd_is_point) (defScope s_law_wd_is_point) .none kV doc pm an cdv ct) ⟨us, []⟩ = pure ((["_law_prime", "_law_value"] : List Str).zip us) := fun _ _ _ _ _ _ us hl => match us, hl with | [_, _], _ => rfl
theorem hb_law_wd_is_word : ∀ (kV doc pm : Value) (an : Option Addr) (cdv ct : Value) (us : List Value), us.length = (["_law_prime", "_law_value"] : List Str).length → bindArgs (PySem.W.fnOf "_law_wd_is_word" "_law_wd_is_word" (defArgs s_law_wd_is_word) (defBody s_law_wd_is_word) (defScope s_law_wd_is_word) .none kV doc pm an cdv ct) ⟨us, []⟩ = pure ((["_law_prime", "_law_value"] : List Str).zip us) := fun _ _ _ _ _ _ us hl => match us, hl with | [_, _], _ => rfl
theorem hb_law_wd_all : ∀ (kV doc pm : Value) (an : Option Addr) (cdv ct : Value) (us : List Value), us.length = (["_law_prime", "_law_length"] : List Str).length → bindArgs (PySem.W.fnOf "_law_wd_all" "_law_wd_all" (defArgs s_law_wd_all) (defBody s_law_wd_all) (defScope s_law_wd_all) .none kV doc pm an cdv ct) ⟨us, []⟩ = pure ((["_law_prime", "_law_length"] : List Str).zip us) := fun _ _ _ _ _ _ us hl => match us, hl with | [_, _], _ => rfl
theorem hb_law_least : ∀ (kV doc pm : Value) (an : Option Addr) (cdv ct : Value) (us : List Value), us.length = (["_law_prime", "_law_word"] : List Str).length → bindArgs (PySem.W.fnOf "_law_least" "_law_least" (defArgs s_law_least) (defBody s_law_least) (defScope s_law_least) .none kV doc pm an cdv ct) ⟨us, []⟩ = pure ((["_law_prime", "_law_word"] : List Str).zip us) := fun _ _ _ _ _ _ us hl => match us, hl with | [_, _], _ => rfl
theorem hb_law_dice : ∀ (kV doc pm : Value) (an : Option Addr) (cdv ct : Value) (us : List Value), us.length = (["_law_script", "_law_spot"] : List Str).length → bindArgs (PySem.W.fnOf "_law_dice" "_law_dice" (defArgs s_law_dice) (defBody s_law_dice) (defScope s_law_dice) .none kV doc pm an cdv ct) ⟨us, []⟩ = pure ((["_law_script", "_law_spot"] : List Str).zip us) := fun _ _ _ _ _ _ us hl => match us, hl with | [_, _], _ => rfl
theorem hb_law_roll : ∀ (kV doc pm : Value) (an : Option Addr) (cdv ct : Value) (us : List Value), us.length = (["_law_dice_here", "_law_total"] : List Str).length → bindArgs (PySem.W.fnOf "_law_roll" "_law_roll" (defArgs s_law_roll) (defBody s_law_roll) (defScope s_law_roll) .none kV doc pm an cdv ct) ⟨us, []⟩ = pure ((["_law_dice_here", "_law_total"] : List Str).zip us) := fun _ _ _ _ _ _ us hl => match us, hl with | [_, _], _ => rfl
theorem hb_law_pick : ∀ (kV doc pm : Value) (an : Option Addr) (cdv ct : Value) (us : List Value), us.length = (["_law_dice_here", "_law_items"] : List Str).length → bindArgs (PySem.W.fnOf "_law_pick" "_law_pick" (defArgs s_law_pick) (defBody s_law_pick) (defScope s_law_pick) .none kV doc pm an cdv ct) ⟨us, []⟩ = pure ((["_law_dice_here", "_law_items"] : List Str).zip us) := fun _ _ _ _ _ _ us hl => match us, hl with | [_, _], _ => rfl
theorem hb_law_letter : ∀ (kV doc pm : Value) (an : Option Addr) (cdv ct : Value) (us : List Value), us.length = (["_law_dice_here", "_law_prime"] : List Str).length → bindArgs (PySem.W.fnOf "_law_letter" "_law_letter" (defArgs s_law_letter) (defBody s_law_letter) (defScope s_law_letter) .none kV doc pm an cdv ct) ⟨us, []⟩ = pure ((["_law_dice_here", "_law_prime"] : List Str).zip us) := fun _ _ _ _ _ _ us hl => match us, hl with | [_, _], _ => rfl
theorem hb_law_point_drawn : ∀ (kV doc pm : Value) (an : Option Addr) (cdv ct : Value) (us : List Value), us.length = (["_law_dice_here", "_law_prime", "_law_most"] : List Str).length → bindArgs (PySem.W.fnOf "_law_point_drawn" "_law_point_drawn" (defArgs s_law_point_drawn) (defBody s_law_point_drawn) (defScope s_law_point_drawn) .none kV doc pm an cdv ct) ⟨us, []⟩ = pure ((["_law_dice_here", "_law_prime", "_law_most"] : List Str).zip us) := fun _ _ _ _ _ _ us hl => match us, hl with | [_, _, _], _ => rfl
theorem hb_law_word_drawn : ∀ (kV doc pm : Value) (an : Option Addr) (cdv ct : Value) (us : List Value), us.length = (["_law_dice_here", "_law_prime", "_law_most"] : List Str).length → bindArgs (PySem.W.fnOf "_law_word_drawn" "_law_word_drawn" (defArgs s_law_word_drawn) (defBody s_law_word_drawn) (defScope s_law_word_drawn) .none kV doc pm an cdv ct) ⟨us, []⟩ = pure ((["_law_dice_here", "_law_prime", "_law_most"] : List Str).zip us) := fun _ _ _ _ _ _ us hl => match us, hl with | [_, _, _], _ => rfl
theorem hb_law_wd_pair : ∀ (kV doc pm : Value) (an : Option Addr) (cdv ct : Value) (us : List Value), us.length = (["_law_dice_here"] : List Str).length → bindArgs (PySem.W.fnOf "_law_wd_pair" "_law_wd_pair" (defArgs s_law_wd_pair) (defBody s_law_wd_pair) (defScope s_law_wd_pair) .none kV doc pm an cdv ct) ⟨us, []⟩ = pure ((["_law_dice_here"] : List Str).zip us) := fun _ _ _ _ _ _ us hl => match us, hl with | [_], _ => rfl
theorem hb_law_kd_kin : ∀ (kV doc pm : Value) (an : Option Addr) (cdv ct : Value) (us : List Value), us.length = (["_law_dice_here", "_law_prime", "_law_word"] : List Str).length → bindArgs (PySem.W.fnOf "_law_kd_kin" "_law_kd_kin" (defArgs s_law_kd_kin) (defBody s_law_kd_kin) (defScope s_law_kd_kin) .none kV doc pm an cdv ct) ⟨us, []⟩ = pure ((["_law_dice_here", "_law_prime", "_law_word"] : List Str).zip us) := fun _ _ _ _ _ _ us hl => match us, hl with | [_, _, _], _ => rfl
theorem hb_is_whole : ∀ (kV doc pm : Value) (an : Option Addr) (cdv ct : Value) (us : List Value), us.length = (["value"] : List Str).length → bindArgs (PySem.W.fnOf "is_whole" "is_whole" (defArgs s_is_whole) (defBody s_is_whole) (defScope s_is_whole) .none kV doc pm an cdv ct) ⟨us, []⟩ = pure ((["value"] : List Str).zip us) := fun _ _ _ _ _ _ us hl => match us, hl with | [_], _ => rfl
theorem hb_is_integer : ∀ (kV doc pm : Value) (an : Option Addr) (cdv ct : Value) (us : List Value), us.length = (["value"] : List Str).length → bindArgs (PySem.W.fnOf "is_integer" "is_integer" (defArgs s_is_integer) (defBody s_is_integer) (defScope s_is_integer) .none kV doc pm an cdv ct) ⟨us, []⟩ = pure ((["value"] : List Str).zip us) := fun _ _ _ _ _ _ us hl => match us, hl with | [_], _ => rfl
theorem hb_is_prime : ∀ (kV doc pm : Value) (an : Option Addr) (cdv ct : Value) (us : List Value), us.length = (["value"] : List Str).length → bindArgs (PySem.W.fnOf "is_prime" "is_prime" (defArgs s_is_prime) (defBody s_is_prime) (defScope s_is_prime) .none kV doc pm an cdv ct) ⟨us, []⟩ = pure ((["value"] : List Str).zip us) := fun _ _ _ _ _ _ us hl => match us, hl with | [_], _ => rfl
theorem hb_require_prime : ∀ (kV doc pm : Value) (an : Option Addr) (cdv ct : Value) (us : List Value), us.length = (["value"] : List Str).length → bindArgs (PySem.W.fnOf "require_prime" "require_prime" (defArgs s_require_prime) (defBody s_require_prime) (defScope s_require_prime) .none kV doc pm an cdv ct) ⟨us, []⟩ = pure ((["value"] : List Str).zip us) := fun _ _ _ _ _ _ us hl => match us, hl with | [_], _ => rfl
theorem hb_is_letter : ∀ (kV doc pm : Value) (an : Option Addr) (cdv ct : Value) (us : List Value), us.length = (["prime", "value"] : List Str).length → bindArgs (PySem.W.fnOf "is_letter" "is_letter" (defArgs s_is_letter) (defBody s_is_letter) (defScope s_is_letter) .none kV doc pm an cdv ct) ⟨us, []⟩ = pure ((["prime", "value"] : List Str).zip us) := fun _ _ _ _ _ _ us hl => match us, hl with | [_, _], _ => rfl
theorem hb_are_letters : ∀ (kV doc pm : Value) (an : Option Addr) (cdv ct : Value) (us : List Value), us.length = (["prime", "value"] : List Str).length → bindArgs (PySem.W.fnOf "are_letters" "are_letters" (defArgs s_are_letters) (defBody s_are_letters) (defScope s_are_letters) .none kV doc pm an cdv ct) ⟨us, []⟩ = pure ((["prime", "value"] : List Str).zip us) := fun _ _ _ _ _ _ us hl => match us, hl with | [_, _], _ => rfl
theorem hb_ends_as_word : ∀ (kV doc pm : Value) (an : Option Addr) (cdv ct : Value) (us : List Value), us.length = (["point"] : List Str).length → bindArgs (PySem.W.fnOf "ends_as_word" "ends_as_word" (defArgs s_ends_as_word) (defBody s_ends_as_word) (defScope s_ends_as_word) .none kV doc pm an cdv ct) ⟨us, []⟩ = pure ((["point"] : List Str).zip us) := fun _ _ _ _ _ _ us hl => match us, hl with | [_], _ => rfl
theorem hb_letters_text : ∀ (kV doc pm : Value) (an : Option Addr) (cdv ct : Value) (us : List Value), us.length = (["point"] : List Str).length → bindArgs (PySem.W.fnOf "letters_text" "letters_text" (defArgs s_letters_text) (defBody s_letters_text) (defScope s_letters_text) .none kV doc pm an cdv ct) ⟨us, []⟩ = pure ((["point"] : List Str).zip us) := fun _ _ _ _ _ _ us hl => match us, hl with | [_], _ => rfl
theorem hb_require_branch : ∀ (kV doc pm : Value) (an : Option Addr) (cdv ct : Value) (us : List Value), us.length = (["value"] : List Str).length → bindArgs (PySem.W.fnOf "require_branch" "require_branch" (defArgs s_require_branch) (defBody s_require_branch) (defScope s_require_branch) .none kV doc pm an cdv ct) ⟨us, []⟩ = pure ((["value"] : List Str).zip us) := fun _ _ _ _ _ _ us hl => match us, hl with | [_], _ => rfl
theorem hb_forms_of : ∀ (kV doc pm : Value) (an : Option Addr) (cdv ct : Value) (us : List Value), us.length = (["word"] : List Str).length → bindArgs (PySem.W.fnOf "forms_of" "forms_of" (defArgs s_forms_of) (defBody s_forms_of) (defScope s_forms_of) .none kV doc pm an cdv ct) ⟨us, []⟩ = pure ((["word"] : List Str).zip us) := fun _ _ _ _ _ _ us hl => match us, hl with | [_], _ => rfl
theorem hb_least_letter : ∀ (kV doc pm : Value) (an : Option Addr) (cdv ct : Value) (us : List Value), us.length = (["form", "letter"] : List Str).length → bindArgs (PySem.W.fnOf "least_letter" "least_letter" (defArgs s_least_letter) (defBody s_least_letter) (defScope s_least_letter) .none kV doc pm an cdv ct) ⟨us, []⟩ = pure ((["form", "letter"] : List Str).zip us) := fun _ _ _ _ _ _ us hl => match us, hl with | [_, _], _ => rfl
theorem hb_kind_in : ∀ (kV doc pm : Value) (an : Option Addr) (cdv ct : Value) (us : List Value), us.length = (["word"] : List Str).length → bindArgs (PySem.W.fnOf "kind_in" "kind_in" (defArgs s_kind_in) (defBody s_kind_in) (defScope s_kind_in) .none kV doc pm an cdv ct) ⟨us, []⟩ = pure ((["word"] : List Str).zip us) := fun _ _ _ _ _ _ us hl => match us, hl with | [_], _ => rfl
theorem hb_kind_of : ∀ (kV doc pm : Value) (an : Option Addr) (cdv ct : Value) (us : List Value), us.length = (["branch"] : List Str).length → bindArgs (PySem.W.fnOf "kind_of" "kind_of" (defArgs s_kind_of) (defBody s_kind_of) (defScope s_kind_of) .none kV doc pm an cdv ct) ⟨us, []⟩ = pure ((["branch"] : List Str).zip us) := fun _ _ _ _ _ _ us hl => match us, hl with | [_], _ => rfl
theorem hb_is_kind_word : ∀ (kV doc pm : Value) (an : Option Addr) (cdv ct : Value) (us : List Value), us.length = (["value"] : List Str).length → bindArgs (PySem.W.fnOf "is_kind_word" "is_kind_word" (defArgs s_is_kind_word) (defBody s_is_kind_word) (defScope s_is_kind_word) .none kV doc pm an cdv ct) ⟨us, []⟩ = pure ((["value"] : List Str).zip us) := fun _ _ _ _ _ _ us hl => match us, hl with | [_], _ => rfl
theorem hb_is_kind : ∀ (kV doc pm : Value) (an : Option Addr) (cdv ct : Value) (us : List Value), us.length = (["value"] : List Str).length → bindArgs (PySem.W.fnOf "is_kind" "is_kind" (defArgs s_is_kind) (defBody s_is_kind) (defScope s_is_kind) .none kV doc pm an cdv ct) ⟨us, []⟩ = pure ((["value"] : List Str).zip us) := fun _ _ _ _ _ _ us hl => match us, hl with | [_], _ => rfl
theorem hb_law_is_by_all : ∀ (kV doc pm : Value) (an : Option Addr) (cdv ct : Value) (us : List Value), us.length = (["_law_dice_here"] : List Str).length → bindArgs (PySem.W.fnOf "_law_is_by_all" "_law_is_by_all" (defArgs s_law_is_by_all) (defBody s_law_is_by_all) (defScope s_law_is_by_all) .none kV doc pm an cdv ct) ⟨us, []⟩ = pure ((["_law_dice_here"] : List Str).zip us) := fun _ _ _ _ _ _ us hl => match us, hl with | [_], _ => rfl
theorem hb_law_is_right : ∀ (kV doc pm : Value) (an : Option Addr) (cdv ct : Value) (us : List Value), us.length = (["_law_dice_here"] : List Str).length → bindArgs (PySem.W.fnOf "_law_is_right" "_law_is_right" (defArgs s_law_is_right) (defBody s_law_is_right) (defScope s_law_is_right) .none kV doc pm an cdv ct) ⟨us, []⟩ = pure ((["_law_dice_here"] : List Str).zip us) := fun _ _ _ _ _ _ us hl => match us, hl with | [_], _ => rfl
theorem all_fin {P : Program} {w : World} {K : PySem.W.Frag} {h : Heap} {mg : Str → Option Value} {fa fL C : Addr} (X : K.In h) (G : h.Ns mainGlobals mg) (hfa : mg "law" = some (.ref fa))
    {oc : Value} {od an : Option Addr} {osl : Array (Option Value)} {kV doc pm cdv ct : Value}
    (aL : PySem.W.nsIn K mainGlobals "law" = some (some (.ref fL))) (lL : K.lookup fL = some ⟨oc, od, .func (PySem.W.fnOf "law" "law" (defArgs s_law) (defBody s_law) (defScope s_law) .none kV doc pm an cdv ct), osl⟩) (cL : PySem.W.codeIn K cdv "law" = true) (kL : PySem.W.keepIn K (.ref fL) = true)
    (B : Bl mg) (mC : mg "Branch" = some (.ref C)) (Q : Bc K C) (hI : HereI K C s_Branch___init__) (T : mg "Branch" = some (.ref C) → Cs K mg C)
    (h_law_second : Here K mg "_law_second" s_law_second ["_law_point"])
    (h_law_nears : Here K mg "_law_nears" s_law_nears ["_law_point"])
    (h_law_corner_heights : Here K mg "_law_corner_heights" s_law_corner_heights ["_law_word"])
    (h_law_orders : Here K mg "_law_orders" s_law_orders ["_law_word"])
    (h_law_counts : Here K mg "_law_counts" s_law_counts ["_law_word", "_law_size"])
    (h_law_generators : Here K mg "_law_generators" s_law_generators ["_law_word"])
    (h_law_kd_size : Here K mg "_law_kd_size" s_law_kd_size ["_law_word"])
    (h_law_wd_is_point : Here K mg "_law_wd_is_point" s_law_wd_is_point ["_law_prime", "_law_value"])
    (h_law_wd_is_word : Here K mg "_law_wd_is_word" s_law_wd_is_word ["_law_prime", "_law_value"])
    (h_law_wd_all : Here K mg "_law_wd_all" s_law_wd_all ["_law_prime", "_law_length"])
    (h_law_least : Here K mg "_law_least" s_law_least ["_law_prime", "_law_word"])
    (h_law_dice : Here K mg "_law_dice" s_law_dice ["_law_script", "_law_spot"])
    (h_law_roll : Here K mg "_law_roll" s_law_roll ["_law_dice_here", "_law_total"])
    (h_law_pick : Here K mg "_law_pick" s_law_pick ["_law_dice_here", "_law_items"])
    (h_law_letter : Here K mg "_law_letter" s_law_letter ["_law_dice_here", "_law_prime"])
    (h_law_point_drawn : Here K mg "_law_point_drawn" s_law_point_drawn ["_law_dice_here", "_law_prime", "_law_most"])
    (h_law_word_drawn : Here K mg "_law_word_drawn" s_law_word_drawn ["_law_dice_here", "_law_prime", "_law_most"])
    (h_law_wd_pair : Here K mg "_law_wd_pair" s_law_wd_pair ["_law_dice_here"])
    (h_law_kd_kin : Here K mg "_law_kd_kin" s_law_kd_kin ["_law_dice_here", "_law_prime", "_law_word"])
    (h_is_whole : Here K mg "is_whole" s_is_whole ["value"])
    (h_is_integer : Here K mg "is_integer" s_is_integer ["value"])
    (h_is_prime : Here K mg "is_prime" s_is_prime ["value"])
    (h_require_prime : Here K mg "require_prime" s_require_prime ["value"])
    (h_is_letter : Here K mg "is_letter" s_is_letter ["prime", "value"])
    (h_are_letters : Here K mg "are_letters" s_are_letters ["prime", "value"])
    (h_ends_as_word : Here K mg "ends_as_word" s_ends_as_word ["point"])
    (h_letters_text : Here K mg "letters_text" s_letters_text ["point"])
    (h_require_branch : Here K mg "require_branch" s_require_branch ["value"])
    (h_forms_of : Here K mg "forms_of" s_forms_of ["word"])
    (h_least_letter : Here K mg "least_letter" s_least_letter ["form", "letter"])
    (h_kind_in : Here K mg "kind_in" s_kind_in ["word"])
    (h_kind_of : Here K mg "kind_of" s_kind_of ["branch"])
    (h_is_kind_word : Here K mg "is_kind_word" s_is_kind_word ["value"])
    (h_is_kind : Here K mg "is_kind" s_is_kind ["value"])
    (h_law_is_by_all : Here K mg "_law_is_by_all" s_law_is_by_all ["_law_dice_here"])
    (h_law_is_right : Here K mg "_law_is_right" s_law_is_right ["_law_dice_here"]) :
    ∃ fd : FuncData, (∀ (s : Shared) (u : Value), BindsTo s fd ⟨[u], []⟩ [("_law_script", u)]) ∧ ∀ base : Heap, K.In base → base.Ns mainGlobals mg → FnOk P w K mg base CX0 8 fa fd ["_law_script"] (spLawK K) := by
  have e := hfa.symm.trans (PySem.W.mg_of X G aL)
  cases e
  exact ⟨_, fun s v => .of_eq rfl, fun base _ _ => all_ok B (T mC) Q hI (fun_mk (st := s_law) lL cL kL) h_law_second h_law_nears h_law_corner_heights h_law_orders h_law_counts h_law_generators h_law_kd_size h_law_wd_is_point h_law_wd_is_word h_law_wd_all h_law_least h_law_dice h_law_roll h_law_pick h_law_letter h_law_point_drawn h_law_word_drawn h_law_wd_pair h_law_kd_kin h_is_whole h_is_integer h_is_prime h_require_prime h_is_letter h_are_letters h_ends_as_word h_letters_text h_require_branch h_forms_of h_least_letter h_kind_in h_kind_of h_is_kind_word h_is_kind h_law_is_by_all h_law_is_right⟩
theorem init_mk {K : PySem.W.Frag} {C f : Addr} {oc : Value} {od an : Option Addr} {osl : Array (Option Value)} {kV doc pm cdv ct : Value}
    (a : PySem.W.findIn K (.ref C) "__init__" = some (some (.ref f))) (i : PySem.W.isFn K (.ref f) = true) (l : K.lookup f = some ⟨oc, od, .func (PySem.W.fnOf "__init__" "Branch.__init__" (defArgs s_Branch___init__) (defBody s_Branch___init__) (defScope s_Branch___init__) .none kV doc pm an cdv ct), osl⟩) (c : PySem.W.codeIn K cdv "Branch.__init__" = true) (k : PySem.W.keepIn K (.ref f) = true)
    (mk : PySem.W.makesIn K C = true) (kc : PySem.W.keepIn K (.ref C) = true) : HereI K C s_Branch___init__ :=
  ⟨f, _, fun_mk l c k, ⟨mk, a, i, kc⟩, (fun_mk l c k).binds fun _ _ _ _ _ _ us hl => match us, hl with | [_, _, _], _ => rfl⟩
theorem gl_mk {K : PySem.W.Frag} {h : Heap} {mg : Str → Option Value} {x : Str} {v : V} {u : Value} (X : K.In h) (G : h.Ns mainGlobals mg) (a : PySem.W.nsIn K mainGlobals x = some (some u)) (r : RelV v u) : GlV mg x v := ⟨u, PySem.W.mg_of X G a, r⟩
theorem pr_mk {K : PySem.W.Frag} {h : Heap} {mg : Str → Option Value} {pa : Addr} {od : Option Addr} {n : Nat} {sl : Array (Option Value)} {t1 t2 t3 t4 t5 t6 t7 t8 t9 t10 t11 : Tok} (X : K.In h) (G : h.Ns mainGlobals mg) (a : PySem.W.nsIn K mainGlobals "PRIMES" = some (some (.ref pa)))
    (l : K.lookup pa = some ⟨.type "tuple", od, .seq #[.int 2 t1, .int 3 t2, .int 5 t3, .int 7 t4, .int 11 t5, .int 13 t6, .int 17 t7, .int 19 t8, .int 23 t9, .int 29 t10, .int 31 t11] n, sl⟩) : ∃ a, GlV mg "PRIMES" (.ref a) ∧ ∀ H, SqT K H a (primes.map V.int) :=
  ⟨pa, gl_mk X G a rfl, fun H => .inr ⟨_, _, _, l, rfl, rfl, by show 11 ≤ sizeLine; decide, .cons ⟨_, rfl⟩ (.cons ⟨_, rfl⟩ (.cons ⟨_, rfl⟩ (.cons ⟨_, rfl⟩ (.cons ⟨_, rfl⟩ (.cons ⟨_, rfl⟩ (.cons ⟨_, rfl⟩ (.cons ⟨_, rfl⟩ (.cons ⟨_, rfl⟩ (.cons ⟨_, rfl⟩ (.cons ⟨_, rfl⟩ .nil))))))))))⟩⟩
theorem slot_mk {K : PySem.W.Frag} {C p : Addr} {f : Str} {i : Nat} (a : PySem.W.findIn K (.ref C) f = some (some (.ref p))) (g : PySem.W.specialIn K (.ref p) "__get__" = some (some (.builtin "member_descriptor.__get__"))) (t : PySem.W.takesIn K (.ref p) = some true) (y : PySem.W.typeIn K (.ref p) = some (.type "member_descriptor")) (x : PySem.W.slotIn K p C = some i) (lt : i < 1000) : ∃ p, SlX.Slot1 K C f p i := ⟨p, a, g, t, y, x, lt⟩
end KD
open PySem PySem.W PyProof.Rows
set_option Elab.async false
set_option maxRecDepth 100000 in
set_option maxHeartbeats 0 in
theorem PySem.Challenge.cw_touchtowers_k46_whole_kinds_by_all_words_holds : PySem.Challenge.rw_touchtowers_k46_whole_kinds_by_all_words.Holds := by
  w_on; o_law; k_head; (case hw => w_witness2)
  k_fill
  refine L2.walk_ofK (l := PySem.Challenge.rw_touchtowers_k46_whole_kinds_by_all_words) (n := 63) (k := 8) (x := "_law_script") (CX := L2.CX0) (sp := KD.spLawK) rfl (by decide) rfl ⟨rfl, by decide, by decide⟩ (fun w h Y => PySem.W.kIn_of Y) ?F (fun _ _ a ns hl _ hS => ⟨a, ns, rfl, hS, hl, fun _ => rfl⟩) (fun _ _ _ _ z => z)
  case F =>
    intro w mg fa h KX G hmg
    refine' KD.all_fin KX G hmg ?kdxaL ?kdxlL ?kdxcL ?kdxkL ?kdxB ?kdxmC ?kdxQ ?kdxhI ?kdxT ?kdxH0 ?kdxH1 ?kdxH2 ?kdxH3 ?kdxH4 ?kdxH5 ?kdxH6 ?kdxH7 ?kdxH8 ?kdxH9 ?kdxH10 ?kdxH11 ?kdxH12 ?kdxH13 ?kdxH14 ?kdxH15 ?kdxH16 ?kdxH17 ?kdxH18 ?kdxH19 ?kdxH20 ?kdxH21 ?kdxH22 ?kdxH23 ?kdxH24 ?kdxH25 ?kdxH26 ?kdxH27 ?kdxH28 ?kdxH29 ?kdxH30 ?kdxH31 ?kdxH32 ?kdxH33 ?kdxH34 ?kdxH35
    (case kdxaL => k_is); (case kdxlL => k_is); (case kdxcL => k_is); (case kdxkL => k_is)
    case kdxmC =>
      refine' PySem.W.mg_of KX G ?kdxaC
      (case kdxaC => k_is)
    case kdxB =>
      refine' ⟨PySem.W.mg_none_of KX G ?kdxz0, PySem.W.mg_none_of KX G ?kdxz1, PySem.W.mg_none_of KX G ?kdxz2, PySem.W.mg_none_of KX G ?kdxz3, PySem.W.mg_none_of KX G ?kdxz4, PySem.W.mg_none_of KX G ?kdxz5, PySem.W.mg_none_of KX G ?kdxz6, PySem.W.mg_none_of KX G ?kdxz7, PySem.W.mg_none_of KX G ?kdxz8, PySem.W.mg_none_of KX G ?kdxz9, PySem.W.mg_none_of KX G ?kdxz10, PySem.W.mg_none_of KX G ?kdxz11, PySem.W.mg_none_of KX G ?kdxz12, PySem.W.mg_none_of KX G ?kdxz13, PySem.W.mg_none_of KX G ?kdxz14⟩
      (case kdxz0 => k_is)
      (case kdxz1 => k_is)
      (case kdxz2 => k_is)
      (case kdxz3 => k_is)
      (case kdxz4 => k_is)
      (case kdxz5 => k_is)
      (case kdxz6 => k_is)
      (case kdxz7 => k_is)
      (case kdxz8 => k_is)
      (case kdxz9 => k_is)
      (case kdxz10 => k_is)
      (case kdxz11 => k_is)
      (case kdxz12 => k_is)
      (case kdxz13 => k_is)
      (case kdxz14 => k_is)
    case kdxQ =>
      refine' ⟨⟨?kdxpg, ?kdxic, ?kdxpo, ?kdxsa⟩, ⟨?kdxca, ?kdxcn, ?kdxct, ?kdxcm⟩, KD.slot_mk ?kdxa0 ?kdxg0 ?kdxt0 ?kdxy0 ?kdxx0 (by decide), KD.slot_mk ?kdxa1 ?kdxg1 ?kdxt1 ?kdxy1 ?kdxx1 (by decide), KD.slot_mk ?kdxa2 ?kdxg2 ?kdxt2 ?kdxy2 ?kdxx2 (by decide)⟩
      (case kdxpg => k_is); (case kdxic => k_is); (case kdxpo => k_is); (case kdxsa => k_is); (case kdxca => k_is); (case kdxcn => k_is); (case kdxct => k_is); (case kdxcm => k_is)
      (case kdxa0 => k_is); (case kdxg0 => k_is); (case kdxt0 => k_is); (case kdxy0 => k_is); (case kdxx0 => k_is)
      (case kdxa1 => k_is); (case kdxg1 => k_is); (case kdxt1 => k_is); (case kdxy1 => k_is); (case kdxx1 => k_is)
      (case kdxa2 => k_is); (case kdxg2 => k_is); (case kdxt2 => k_is); (case kdxy2 => k_is); (case kdxx2 => k_is)
    case kdxhI =>
      refine' KD.init_mk ?kdxai ?kdxii ?kdxli ?kdxci ?kdxki ?kdxmk ?kdxkc
      (case kdxai => k_is); (case kdxii => k_is); (case kdxli => k_is); (case kdxci => k_is); (case kdxki => k_is); (case kdxmk => k_is); (case kdxkc => k_is)
    case kdxT =>
      intro mC
      refine' ⟨KD.gl_mk KX G ?kdxc1 ?kdxr1, KD.gl_mk KX G ?kdxc2 ?kdxr2, KD.gl_mk KX G ?kdxc3 ?kdxr3, KD.gl_mk KX G ?kdxc4 ?kdxr4, KD.gl_mk KX G ?kdxc5 ?kdxr5, KD.gl_mk KX G ?kdxc6 ?kdxr6, KD.gl_mk KX G ?kdxc7 ?kdxr7, KD.gl_mk KX G ?kdxc8 ?kdxr8, KD.gl_mk KX G ?kdxc9 ?kdxr9, KD.gl_mk KX G ?kdxc10 ?kdxr10, KD.pr_mk KX G ?kdxpa ?kdxpl, mC⟩
      (case kdxc1 => k_is); (case kdxc2 => k_is); (case kdxc3 => k_is); (case kdxc4 => k_is); (case kdxc5 => k_is); (case kdxc6 => k_is); (case kdxc7 => k_is); (case kdxc8 => k_is); (case kdxc9 => k_is); (case kdxc10 => k_is)
      (case kdxr1 => exact ⟨_, rfl⟩); (case kdxr2 => exact ⟨_, rfl⟩); (case kdxr3 => exact ⟨_, rfl⟩); (case kdxr4 => exact ⟨_, rfl⟩); (case kdxr5 => exact ⟨_, rfl⟩); (case kdxr6 => exact ⟨_, rfl⟩); (case kdxr7 => exact ⟨_, rfl⟩); (case kdxr8 => exact ⟨_, rfl⟩); (case kdxr9 => exact ⟨_, rfl⟩); (case kdxr10 => exact ⟨_, rfl⟩)
      (case kdxpa => k_is); (case kdxpl => k_is)
    case kdxH0 =>
      refine' KD.here_mk KX G ?kdxha0 ?kdxhl0 ?kdxhc0 ?kdxhk0 KD.hb_law_second
      (case kdxha0 => k_is); (case kdxhl0 => k_is); (case kdxhc0 => k_is); (case kdxhk0 => k_is)
    case kdxH1 =>
      refine' KD.here_mk KX G ?kdxha1 ?kdxhl1 ?kdxhc1 ?kdxhk1 KD.hb_law_nears
      (case kdxha1 => k_is); (case kdxhl1 => k_is); (case kdxhc1 => k_is); (case kdxhk1 => k_is)
    case kdxH2 =>
      refine' KD.here_mk KX G ?kdxha2 ?kdxhl2 ?kdxhc2 ?kdxhk2 KD.hb_law_corner_heights
      (case kdxha2 => k_is); (case kdxhl2 => k_is); (case kdxhc2 => k_is); (case kdxhk2 => k_is)
    case kdxH3 =>
      refine' KD.here_mk KX G ?kdxha3 ?kdxhl3 ?kdxhc3 ?kdxhk3 KD.hb_law_orders
      (case kdxha3 => k_is); (case kdxhl3 => k_is); (case kdxhc3 => k_is); (case kdxhk3 => k_is)
    case kdxH4 =>
      refine' KD.here_mk KX G ?kdxha4 ?kdxhl4 ?kdxhc4 ?kdxhk4 KD.hb_law_counts
      (case kdxha4 => k_is); (case kdxhl4 => k_is); (case kdxhc4 => k_is); (case kdxhk4 => k_is)
    case kdxH5 =>
      refine' KD.here_mk KX G ?kdxha5 ?kdxhl5 ?kdxhc5 ?kdxhk5 KD.hb_law_generators
      (case kdxha5 => k_is); (case kdxhl5 => k_is); (case kdxhc5 => k_is); (case kdxhk5 => k_is)
    case kdxH6 =>
      refine' KD.here_mk KX G ?kdxha6 ?kdxhl6 ?kdxhc6 ?kdxhk6 KD.hb_law_kd_size
      (case kdxha6 => k_is); (case kdxhl6 => k_is); (case kdxhc6 => k_is); (case kdxhk6 => k_is)
    case kdxH7 =>
      refine' KD.here_mk KX G ?kdxha7 ?kdxhl7 ?kdxhc7 ?kdxhk7 KD.hb_law_wd_is_point
      (case kdxha7 => k_is); (case kdxhl7 => k_is); (case kdxhc7 => k_is); (case kdxhk7 => k_is)
    case kdxH8 =>
      refine' KD.here_mk KX G ?kdxha8 ?kdxhl8 ?kdxhc8 ?kdxhk8 KD.hb_law_wd_is_word
      (case kdxha8 => k_is); (case kdxhl8 => k_is); (case kdxhc8 => k_is); (case kdxhk8 => k_is)
    case kdxH9 =>
      refine' KD.here_mk KX G ?kdxha9 ?kdxhl9 ?kdxhc9 ?kdxhk9 KD.hb_law_wd_all
      (case kdxha9 => k_is); (case kdxhl9 => k_is); (case kdxhc9 => k_is); (case kdxhk9 => k_is)
    case kdxH10 =>
      refine' KD.here_mk KX G ?kdxha10 ?kdxhl10 ?kdxhc10 ?kdxhk10 KD.hb_law_least
      (case kdxha10 => k_is); (case kdxhl10 => k_is); (case kdxhc10 => k_is); (case kdxhk10 => k_is)
    case kdxH11 =>
      refine' KD.here_mk KX G ?kdxha11 ?kdxhl11 ?kdxhc11 ?kdxhk11 KD.hb_law_dice
      (case kdxha11 => k_is); (case kdxhl11 => k_is); (case kdxhc11 => k_is); (case kdxhk11 => k_is)
    case kdxH12 =>
      refine' KD.here_mk KX G ?kdxha12 ?kdxhl12 ?kdxhc12 ?kdxhk12 KD.hb_law_roll
      (case kdxha12 => k_is); (case kdxhl12 => k_is); (case kdxhc12 => k_is); (case kdxhk12 => k_is)
    case kdxH13 =>
      refine' KD.here_mk KX G ?kdxha13 ?kdxhl13 ?kdxhc13 ?kdxhk13 KD.hb_law_pick
      (case kdxha13 => k_is); (case kdxhl13 => k_is); (case kdxhc13 => k_is); (case kdxhk13 => k_is)
    case kdxH14 =>
      refine' KD.here_mk KX G ?kdxha14 ?kdxhl14 ?kdxhc14 ?kdxhk14 KD.hb_law_letter
      (case kdxha14 => k_is); (case kdxhl14 => k_is); (case kdxhc14 => k_is); (case kdxhk14 => k_is)
    case kdxH15 =>
      refine' KD.here_mk KX G ?kdxha15 ?kdxhl15 ?kdxhc15 ?kdxhk15 KD.hb_law_point_drawn
      (case kdxha15 => k_is); (case kdxhl15 => k_is); (case kdxhc15 => k_is); (case kdxhk15 => k_is)
    case kdxH16 =>
      refine' KD.here_mk KX G ?kdxha16 ?kdxhl16 ?kdxhc16 ?kdxhk16 KD.hb_law_word_drawn
      (case kdxha16 => k_is); (case kdxhl16 => k_is); (case kdxhc16 => k_is); (case kdxhk16 => k_is)
    case kdxH17 =>
      refine' KD.here_mk KX G ?kdxha17 ?kdxhl17 ?kdxhc17 ?kdxhk17 KD.hb_law_wd_pair
      (case kdxha17 => k_is); (case kdxhl17 => k_is); (case kdxhc17 => k_is); (case kdxhk17 => k_is)
    case kdxH18 =>
      refine' KD.here_mk KX G ?kdxha18 ?kdxhl18 ?kdxhc18 ?kdxhk18 KD.hb_law_kd_kin
      (case kdxha18 => k_is); (case kdxhl18 => k_is); (case kdxhc18 => k_is); (case kdxhk18 => k_is)
    case kdxH19 =>
      refine' KD.here_mk KX G ?kdxha19 ?kdxhl19 ?kdxhc19 ?kdxhk19 KD.hb_is_whole
      (case kdxha19 => k_is); (case kdxhl19 => k_is); (case kdxhc19 => k_is); (case kdxhk19 => k_is)
    case kdxH20 =>
      refine' KD.here_mk KX G ?kdxha20 ?kdxhl20 ?kdxhc20 ?kdxhk20 KD.hb_is_integer
      (case kdxha20 => k_is); (case kdxhl20 => k_is); (case kdxhc20 => k_is); (case kdxhk20 => k_is)
    case kdxH21 =>
      refine' KD.here_mk KX G ?kdxha21 ?kdxhl21 ?kdxhc21 ?kdxhk21 KD.hb_is_prime
      (case kdxha21 => k_is); (case kdxhl21 => k_is); (case kdxhc21 => k_is); (case kdxhk21 => k_is)
    case kdxH22 =>
      refine' KD.here_mk KX G ?kdxha22 ?kdxhl22 ?kdxhc22 ?kdxhk22 KD.hb_require_prime
      (case kdxha22 => k_is); (case kdxhl22 => k_is); (case kdxhc22 => k_is); (case kdxhk22 => k_is)
    case kdxH23 =>
      refine' KD.here_mk KX G ?kdxha23 ?kdxhl23 ?kdxhc23 ?kdxhk23 KD.hb_is_letter
      (case kdxha23 => k_is); (case kdxhl23 => k_is); (case kdxhc23 => k_is); (case kdxhk23 => k_is)
    case kdxH24 =>
      refine' KD.here_mk KX G ?kdxha24 ?kdxhl24 ?kdxhc24 ?kdxhk24 KD.hb_are_letters
      (case kdxha24 => k_is); (case kdxhl24 => k_is); (case kdxhc24 => k_is); (case kdxhk24 => k_is)
    case kdxH25 =>
      refine' KD.here_mk KX G ?kdxha25 ?kdxhl25 ?kdxhc25 ?kdxhk25 KD.hb_ends_as_word
      (case kdxha25 => k_is); (case kdxhl25 => k_is); (case kdxhc25 => k_is); (case kdxhk25 => k_is)
    case kdxH26 =>
      refine' KD.here_mk KX G ?kdxha26 ?kdxhl26 ?kdxhc26 ?kdxhk26 KD.hb_letters_text
      (case kdxha26 => k_is); (case kdxhl26 => k_is); (case kdxhc26 => k_is); (case kdxhk26 => k_is)
    case kdxH27 =>
      refine' KD.here_mk KX G ?kdxha27 ?kdxhl27 ?kdxhc27 ?kdxhk27 KD.hb_require_branch
      (case kdxha27 => k_is); (case kdxhl27 => k_is); (case kdxhc27 => k_is); (case kdxhk27 => k_is)
    case kdxH28 =>
      refine' KD.here_mk KX G ?kdxha28 ?kdxhl28 ?kdxhc28 ?kdxhk28 KD.hb_forms_of
      (case kdxha28 => k_is); (case kdxhl28 => k_is); (case kdxhc28 => k_is); (case kdxhk28 => k_is)
    case kdxH29 =>
      refine' KD.here_mk KX G ?kdxha29 ?kdxhl29 ?kdxhc29 ?kdxhk29 KD.hb_least_letter
      (case kdxha29 => k_is); (case kdxhl29 => k_is); (case kdxhc29 => k_is); (case kdxhk29 => k_is)
    case kdxH30 =>
      refine' KD.here_mk KX G ?kdxha30 ?kdxhl30 ?kdxhc30 ?kdxhk30 KD.hb_kind_in
      (case kdxha30 => k_is); (case kdxhl30 => k_is); (case kdxhc30 => k_is); (case kdxhk30 => k_is)
    case kdxH31 =>
      refine' KD.here_mk KX G ?kdxha31 ?kdxhl31 ?kdxhc31 ?kdxhk31 KD.hb_kind_of
      (case kdxha31 => k_is); (case kdxhl31 => k_is); (case kdxhc31 => k_is); (case kdxhk31 => k_is)
    case kdxH32 =>
      refine' KD.here_mk KX G ?kdxha32 ?kdxhl32 ?kdxhc32 ?kdxhk32 KD.hb_is_kind_word
      (case kdxha32 => k_is); (case kdxhl32 => k_is); (case kdxhc32 => k_is); (case kdxhk32 => k_is)
    case kdxH33 =>
      refine' KD.here_mk KX G ?kdxha33 ?kdxhl33 ?kdxhc33 ?kdxhk33 KD.hb_is_kind
      (case kdxha33 => k_is); (case kdxhl33 => k_is); (case kdxhc33 => k_is); (case kdxhk33 => k_is)
    case kdxH34 =>
      refine' KD.here_mk KX G ?kdxha34 ?kdxhl34 ?kdxhc34 ?kdxhk34 KD.hb_law_is_by_all
      (case kdxha34 => k_is); (case kdxhl34 => k_is); (case kdxhc34 => k_is); (case kdxhk34 => k_is)
    case kdxH35 =>
      refine' KD.here_mk KX G ?kdxha35 ?kdxhl35 ?kdxhc35 ?kdxhk35 KD.hb_law_is_right
      (case kdxha35 => k_is); (case kdxhl35 => k_is); (case kdxhc35 => k_is); (case kdxhk35 => k_is)
