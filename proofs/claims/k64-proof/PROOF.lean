import PyProof.Rows.All
import Wide.All
import OpenK.AllK
import Wide.FinOn
import KE.KStateDown
import HandS.ForMost
import HandS.Defaults
import HandS.Head0
import HandS.Head1
import HandS.Head2
import HandS.HeadEnd
import HandS.HeadHook1
import HandS.HeadHook2
import HandS.TupAny
import HandS.TupMul
import HandS.TupLen
import HandS.TupLe
import HandS.IsInst
import HandS.Deep
import HandS.Conv
import HandS.Sort
import HandS.SortOrd
import HandS.SortRule
import HandS.SortInts
import HandS.More
import HandS.Flow
import HandS.Keys
import KE.KDictDisplayH
import HandS.Codes
import HandS.Walk
import PySem.Challenge.RW_twoforone_k64_whole_needs_hang_together
/-! the plain mathematics of heaps that fail -/
set_option linter.all false
namespace K64

/-- stones at a place -/
def g (h : List Int) (i : Nat) : Int := h.getD i 0
theorem g_set {h : List Int} {a i : Nat} {x : Int} : g (h.set a x) i = if i = a ∧ a < h.length then x else g h i := by
  unfold g
  rw [List.getD_eq_getElem?_getD, List.getD_eq_getElem?_getD, List.getElem?_set]
  by_cases e : a = i
  · subst e
    by_cases l : a < h.length
    · rw [if_pos rfl, if_pos l, if_pos ⟨rfl, l⟩]; rfl
    · rw [if_pos rfl, if_neg l, if_neg (fun z => l z.2)]
      rw [List.getElem?_eq_none (by omega)]
  · rw [if_neg e, if_neg (fun z => e z.1.symm)]
/-- the heap behind a step -/
def doneF (h : List Int) (a b : Nat) : List Int := (h.set a (g h a - 2)).set b (g (h.set a (g h a - 2)) b + 1)
def bump (h : List Int) (i : Nat) : List Int := h.set i (g h i + 1)
theorem doneF_len (h : List Int) (a b : Nat) : (doneF h a b).length = h.length := by
  unfold doneF; rw [List.length_set, List.length_set]
theorem bump_len (h : List Int) (i : Nat) : (bump h i).length = h.length := by
  unfold bump; rw [List.length_set]
theorem g_bump {h : List Int} {a i : Nat} (ha : a < h.length) : g (bump h a) i = if i = a then g h i + 1 else g h i := by
  unfold bump
  rw [g_set]
  by_cases e : i = a
  · rw [if_pos ⟨e, ha⟩, if_pos e, e]
  · rw [if_neg (fun z => e z.1), if_neg e]
theorem g_done {h : List Int} {a b i : Nat} (ha : a < h.length) (hb : b < h.length) (ab : a ≠ b) : g (doneF h a b) i = if i = b then g h i + 1 else if i = a then g h i - 2 else g h i := by
  unfold doneF
  rw [g_set, List.length_set]
  by_cases e : i = b
  · subst e
    rw [if_pos ⟨rfl, hb⟩, if_pos rfl, g_set, if_neg (fun z => ab z.1.symm)]
  · rw [if_neg (fun z => e z.1), if_neg e, g_set]
    by_cases e2 : i = a
    · subst e2
      rw [if_pos ⟨rfl, ha⟩, if_pos rfl]
    · rw [if_neg (fun z => e2 z.1), if_neg e2]
theorem sum_set : ∀ {l : List Int} {j : Nat} {y : Int}, j < l.length → (l.set j y).sum = l.sum - g l j + y
  | [], j, y, h => absurd h (Nat.not_lt_zero _)
  | a :: r, 0, y, h => by
    show (y :: r).sum = (a :: r).sum - a + y
    rw [List.sum_cons, List.sum_cons]
    omega
  | a :: r, j + 1, y, h => by
    have ih := sum_set (l := r) (j := j) (y := y) (Nat.lt_of_succ_lt_succ h)
    show (a :: r.set j y).sum = (a :: r).sum - g r j + y
    rw [List.sum_cons, List.sum_cons, ih]
    omega
theorem sum_bump {h : List Int} {i : Nat} (hi : i < h.length) : (bump h i).sum = h.sum + 1 := by
  unfold bump
  rw [sum_set hi]; omega
theorem sum_done {h : List Int} {a b : Nat} (ha : a < h.length) (hb : b < h.length) (ab : a ≠ b) : (doneF h a b).sum = h.sum - 1 := by
  unfold doneF
  rw [sum_set (by rw [List.length_set]; exact hb), sum_set ha]
  omega
theorem ext_g {h k : List Int} (hl : h.length = k.length) (e : ∀ i, g h i = g k i) : h = k := by
  refine List.ext_getElem hl fun i h1 h2 => ?_
  have q := e i
  unfold g at q
  rw [List.getD_eq_getElem?_getD, List.getD_eq_getElem?_getD, List.getElem?_eq_getElem h1, List.getElem?_eq_getElem h2] at q
  exact q
theorem g_out {h : List Int} {i : Nat} (hi : h.length ≤ i) : g h i = 0 := by
  unfold g
  rw [List.getD_eq_getElem?_getD, List.getElem?_eq_none hi]; rfl

abbrev Web := List (Nat × Nat)
def Adj (T : Web) (a b : Nat) : Prop := (a, b) ∈ T ∨ (b, a) ∈ T
/-- m stones can't be brought to p -/
inductive Fail (T : Web) (p : Nat) (m : Int) : List Int → Prop
  | mk {h : List Int} : g h p < m → (∀ a b, Adj T a b → 2 ≤ g h a → Fail T p m (doneF h a b)) → Fail T p m h
theorem Fail.lt {T : Web} {p : Nat} {m : Int} {h : List Int} : Fail T p m h → g h p < m
  | .mk h1 _ => h1
theorem Fail.step {T : Web} {p : Nat} {m : Int} {h : List Int} : Fail T p m h → ∀ a b, Adj T a b → 2 ≤ g h a → Fail T p m (doneF h a b)
  | .mk _ h2 => h2
/-- a web's ties are of two unlike places below n -/
def WF (n : Nat) (T : Web) : Prop := ∀ a b, (a, b) ∈ T → a < b ∧ b < n
theorem WF.adj {n : Nat} {T : Web} (w : WF n T) {a b : Nat} (h : Adj T a b) : a < n ∧ b < n ∧ a ≠ b := by
  rcases h with h | h
  · have := w a b h; omega
  · have := w b a h; omega
/-- with fewer stones it fails -/
theorem Fail.less {n : Nat} {T : Web} (w : WF n T) {p : Nat} {m : Int} {h : List Int} (f : Fail T p m h) : h.length = n → ∀ k : List Int, k.length = n → (∀ i, g k i ≤ g h i) → Fail T p m k := by
  induction f with
  | @mk h h1 h2 ih =>
    intro hl k hk le
    refine .mk (by have := le p; omega) fun a b ad h2a => ?_
    obtain ⟨wa, wb, ab⟩ := w.adj ad
    refine ih a b ad (by have := le a; omega) (by rw [doneF_len, hl]) _ (by rw [doneF_len, hk]) fun i => ?_
    rw [g_done (by omega) (by omega) ab, g_done (by omega) (by omega) ab]
    have := le i
    split <;> (try split) <;> omega
/-- with more ties fewer fail -/
theorem Fail.sub {T T' : Web} (s : ∀ e, e ∈ T → e ∈ T') {p : Nat} {m : Int} {h : List Int} (f : Fail T' p m h) : Fail T p m h := by
  induction f with
  | mk h1 h2 ih =>
    refine .mk h1 fun a b ad h2a => ih a b ?_ h2a
    rcases ad with ad | ad
    · exact .inl (s _ ad)
    · exact .inr (s _ ad)
/-- the heaps of j stones that fail -/
structure Lev (n : Nat) (T : Web) (p : Nat) (m : Int) (j : Nat) (h : List Int) : Prop where
  len : h.length = n
  pos : ∀ i, 0 ≤ g h i
  sum : h.sum = (j : Int)
  fail : Fail T p m h
section
variable {n : Nat} {T : Web} {p : Nat} {m : Int}
theorem sum_zero_or : ∀ {h : List Int}, (∀ i, 0 ≤ g h i) → 0 < h.sum → ∃ i, i < h.length ∧ 0 < g h i
  | [], _, h => absurd h (by decide)
  | a :: r, hp, h => by
    by_cases e : 0 < a
    · exact ⟨0, Nat.succ_pos _, e⟩
    · have h0 : 0 ≤ a := hp 0
      rw [List.sum_cons] at h
      obtain ⟨i, h1, h2⟩ := sum_zero_or (h := r) (fun i => hp (i + 1)) (by omega)
      exact ⟨i + 1, Nat.succ_lt_succ h1, h2⟩
theorem sum_nonneg : ∀ {h : List Int}, (∀ i, 0 ≤ g h i) → 0 ≤ h.sum
  | [], _ => Int.le_refl _
  | a :: r, hp => by
    have h0 : 0 ≤ a := hp 0
    have := sum_nonneg (h := r) fun i => hp (i + 1)
    rw [List.sum_cons]; omega
theorem sum_le_all : ∀ {h : List Int} {B : Int}, (∀ i, i < h.length → g h i ≤ B) → h.sum ≤ (h.length : Int) * B
  | [], B, _ => by simp
  | a :: r, B, hp => by
    have h0 : a ≤ B := hp 0 (Nat.succ_pos _)
    have := sum_le_all (h := r) (B := B) fun i hi => hp (i + 1) (Nat.succ_lt_succ hi)
    rw [List.sum_cons, List.length_cons]
    have e : ((r.length + 1 : Nat) : Int) * B = (r.length : Int) * B + B := by
      rw [Int.natCast_add, Int.add_mul]
      simp
    omega
theorem g_le_sum : ∀ {h : List Int} (i : Nat), (∀ i, 0 ≤ g h i) → g h i ≤ h.sum
  | [], i, _ => by rw [g_out (Nat.zero_le _)]; exact Int.le_refl _
  | a :: r, 0, hp => by
    have := sum_nonneg (h := r) fun i => hp (i + 1)
    rw [List.sum_cons]
    show a ≤ _
    omega
  | a :: r, i + 1, hp => by
    have h0 : 0 ≤ a := hp 0
    have := g_le_sum (h := r) i fun i => hp (i + 1)
    rw [List.sum_cons]
    show g r i ≤ _
    omega
/-- one stone fewer at a place -/
theorem Lev.fewer (w : WF n T) {j : Nat} {h : List Int} (l : Lev n T p m (j + 1) h) {i : Nat} (hi : i < n) (hp : 0 < g h i) : Lev n T p m j (h.set i (g h i - 1)) := by
  have hl := l.len
  refine ⟨by rw [List.length_set, hl], fun k => ?_, ?_, ?_⟩
  · rw [g_set]
    have := l.pos k
    split <;> omega
  · rw [sum_set (by omega), l.sum]; omega
  · refine l.fail.less w hl _ (by rw [List.length_set, hl]) fun k => ?_
    rw [g_set]
    split
    · rename_i e; rw [e.1]; omega
    · exact Int.le_refl _
theorem Lev.step (w : WF n T) {j : Nat} {h : List Int} (l : Lev n T p m (j + 1) h) {a b : Nat} (ad : Adj T a b) (h2 : 2 ≤ g h a) : Lev n T p m j (doneF h a b) := by
  obtain ⟨wa, wb, ab⟩ := w.adj ad
  have hl := l.len
  refine ⟨by rw [doneF_len, hl], fun k => ?_, ?_, l.fail.step a b ad h2⟩
  · rw [g_done (by omega) (by omega) ab]
    have := l.pos k
    split
    · omega
    · split
      · rename_i e; rw [e]; omega
      · exact this
  · rw [sum_done (by omega) (by omega) ab, l.sum]; omega
theorem bump_fewer {h : List Int} {i : Nat} (hi : i < h.length) : bump (h.set i (g h i - 1)) i = h := by
  refine ext_g (by rw [bump_len, List.length_set]) fun k => ?_
  rw [g_bump (by rw [List.length_set]; exact hi), g_set]
  by_cases e : k = i
  · rw [if_pos e, if_pos ⟨e, hi⟩, e]; omega
  · rw [if_neg e, if_neg fun z => e z.1]
/-- how the heaps of one stone more come of those that are known -/
theorem lev_succ (w : WF n T) {j : Nat} {x : List Int} : Lev n T p m (j + 1) x ↔ (∃ h, Lev n T p m j h ∧ ∃ i, i < n ∧ x = bump h i) ∧ g x p < m ∧ ∀ a b, Adj T a b → 2 ≤ g x a → Lev n T p m j (doneF x a b) := by
  refine ⟨fun l => ⟨?_, l.fail.lt, fun a b ad h2 => l.step w ad h2⟩, fun ⟨⟨h, l, i, hi, e⟩, h1, h2⟩ => ?_⟩
  · obtain ⟨i, hi, hp⟩ := sum_zero_or l.pos (by rw [l.sum]; omega)
    have hi' : i < n := by rw [l.len] at hi; exact hi
    exact ⟨_, l.fewer w hi' hp, i, hi', (bump_fewer hi).symm⟩
  · have hl := l.len
    subst e
    refine ⟨by rw [bump_len, hl], fun k => ?_, ?_, .mk h1 fun a b ad h2a => (h2 a b ad h2a).fail⟩
    · rw [g_bump (by omega)]
      have := l.pos k
      split <;> omega
    · rw [sum_bump (by omega), l.sum]; omega
theorem g_rep {i : Nat} : g (List.replicate n (0 : Int)) i = 0 := by
  unfold g
  rw [List.getD_eq_getElem?_getD, List.getElem?_replicate]
  split <;> rfl
theorem lev_zero (hm : 1 ≤ m) {x : List Int} : Lev n T p m 0 x ↔ x = List.replicate n 0 := by
  constructor
  · intro l
    refine ext_g (by rw [l.len, List.length_replicate]) fun i => ?_
    rw [g_rep]
    have h1 := l.pos i
    have h2 := g_le_sum i l.pos
    rw [l.sum] at h2
    omega
  · rintro rfl
    refine ⟨List.length_replicate, fun i => by rw [g_rep]; exact Int.le_refl _, ?_, .mk (by rw [g_rep]; omega) fun a b _ h => ?_⟩
    · clear hm
      induction n with
      | zero => rfl
      | succ n ih => rw [List.replicate_succ, List.sum_cons, ih]; rfl
    · rw [g_rep] at h; omega
theorem lev_down (w : WF n T) {j : Nat} (h : ∃ x, Lev n T p m (j + 1) x) : ∃ x, Lev n T p m j x := by
  obtain ⟨x, l⟩ := h
  obtain ⟨⟨y, ly, _⟩, _⟩ := (lev_succ w).mp l
  exact ⟨y, ly⟩
theorem lev_downs (w : WF n T) {j k : Nat} (hk : k ≤ j) (h : ∃ x, Lev n T p m j x) : ∃ x, Lev n T p m k x := by
  induction j with
  | zero =>
    have : k = 0 := by omega
    rw [this]; exact h
  | succ j ih =>
    by_cases e : k = j + 1
    · rw [e]; exact h
    · exact ih (by omega) (lev_down w h)
/-- the least number of stones of which no heap fails -/
def IsNeed (n : Nat) (T : Web) (p : Nat) (m : Int) (N : Nat) : Prop := (∀ j, j < N → ∃ x, Lev n T p m j x) ∧ ∀ x, ¬ Lev n T p m N x
theorem IsNeed.uniq {N M : Nat} (a : IsNeed n T p m N) (b : IsNeed n T p m M) : N = M := by
  rcases Nat.lt_trichotomy N M with h | h | h
  · obtain ⟨x, l⟩ := b.1 N h
    exact absurd l (a.2 x)
  · exact h
  · obtain ⟨x, l⟩ := a.1 M h
    exact absurd l (b.2 x)
theorem IsNeed.gt (w : WF n T) {N j : Nat} (a : IsNeed n T p m N) {x : List Int} (l : Lev n T p m j x) : j < N := by
  by_cases h : j < N
  · exact h
  · obtain ⟨y, ly⟩ := lev_downs w (by omega : N ≤ j) ⟨x, l⟩
    exact absurd ly (a.2 y)
theorem Lev.sub {T' : Web} (s : ∀ e, e ∈ T → e ∈ T') {j : Nat} {x : List Int} (l : Lev n T' p m j x) : Lev n T p m j x := ⟨l.len, l.pos, l.sum, l.fail.sub s⟩
/-- with a tie more it is no greater -/
theorem IsNeed.mono {T' : Web} (s : ∀ e, e ∈ T → e ∈ T') {N N' : Nat} (a : IsNeed n T p m N) (b : IsNeed n T' p m N') : N' ≤ N := by
  by_cases h : N' ≤ N
  · exact h
  · obtain ⟨x, l⟩ := b.1 N (by omega)
    exact absurd (l.sub s) (a.2 x)

/-- distances from p -/
structure Dist (n : Nat) (T : Web) (p : Nat) (d : Nat → Nat) : Prop where
  zero : d p = 0
  tie : ∀ a b, Adj T a b → d b ≤ d a + 1
  near : ∀ i, i < n → i ≠ p → ∃ j, j < n ∧ Adj T i j ∧ d j + 1 = d i
/-- k steps from a to b -/
theorem Fail.many (w : WF n T) {a b : Nat} (ad : Adj T a b) : ∀ (k : Nat) {h : List Int}, h.length = n → 2 * (k : Int) ≤ g h a → Fail T p m h → ∃ h' : List Int, h'.length = n ∧ g h' b = g h b + k ∧ Fail T p m h'
  | 0, h, hl, _, f => ⟨h, hl, by simp, f⟩
  | k + 1, h, hl, h2, f => by
    obtain ⟨wa, wb, ab⟩ := w.adj ad
    have e1 : g (doneF h a b) a = g h a - 2 := by
      rw [g_done (by omega) (by omega) ab, if_neg ab, if_pos rfl]
    have e2 : g (doneF h a b) b = g h b + 1 := by
      rw [g_done (by omega) (by omega) ab, if_pos rfl]
    obtain ⟨h', l', e', f'⟩ := Fail.many w ad k (h := doneF h a b) (by rw [doneF_len, hl]) (by rw [e1]; omega) (f.step a b ad (by omega))
    refine ⟨h', l', ?_, f'⟩
    rw [e', e2]; omega
/-- a place that far from p has fewer than m times 2 ^ that many stones -/
theorem Fail.bound (w : WF n T) {d : Nat → Nat} (D : Dist n T p d) (hm : 0 ≤ m) : ∀ (k : Nat) (i : Nat), i < n → d i = k → ∀ {h : List Int}, h.length = n → (∀ i, 0 ≤ g h i) → Fail T p m h → g h i < m * 2 ^ k := by
  intro k
  induction k with
  | zero =>
    intro i hi e h hl hp f
    have : i = p := by
      by_cases z : i = p
      · exact z
      · obtain ⟨j, _, _, q⟩ := D.near i hi z
        omega
    subst this
    have := f.lt
    simpa using this
  | succ k ih =>
    intro i hi e h hl hp f
    have hne : i ≠ p := fun z => by rw [z, D.zero] at e; omega
    obtain ⟨j, hj, ad, q⟩ := D.near i hi hne
    by_cases c : g h i < m * 2 ^ (k + 1)
    · exact c
    · exfalso
      have pw : (2 : Int) ^ (k + 1) = 2 * 2 ^ k := by rw [Int.pow_succ]; omega
      have hnn : 0 ≤ m * 2 ^ k := Int.mul_nonneg hm (Int.pow_nonneg (by decide))
      have e3 : m * 2 ^ (k + 1) = 2 * (m * 2 ^ k) := by
        rw [pw, ← Int.mul_assoc, ← Int.mul_assoc, Int.mul_comm m 2]
      obtain ⟨wa, wb, ab⟩ := w.adj ad
      -- the steps, and that no stone lacks
      have key : ∀ (t : Nat) {h : List Int}, h.length = n → (∀ i, 0 ≤ g h i) → 2 * (t : Int) ≤ g h i → Fail T p m h → ∃ h' : List Int, h'.length = n ∧ (∀ i, 0 ≤ g h' i) ∧ g h' j = g h j + t ∧ Fail T p m h' := by
        intro t
        induction t with
        | zero => intro h hl hp _ f; exact ⟨h, hl, hp, by simp, f⟩
        | succ t iht =>
          intro h hl hp h2 f
          have e1 : g (doneF h i j) i = g h i - 2 := by
            rw [g_done (by omega) (by omega) ab, if_neg ab, if_pos rfl]
          have e2 : g (doneF h i j) j = g h j + 1 := by
            rw [g_done (by omega) (by omega) ab, if_pos rfl]
          obtain ⟨h', l', p', e', f'⟩ := iht (h := doneF h i j) (by rw [doneF_len, hl]) (fun x => by
            rw [g_done (by omega) (by omega) ab]
            have := hp x
            split
            · omega
            · split
              · rename_i z; rw [z]; omega
              · exact this) (by rw [e1]; omega) (f.step i j ad (by omega))
          refine ⟨h', l', p', ?_, f'⟩
          rw [e', e2]; omega
      obtain ⟨h', l', p', e', f'⟩ := key (m * 2 ^ k).toNat hl hp (by rw [Int.toNat_of_nonneg hnn]; omega) f
      have := ih j hj (by omega) l' p' f'
      rw [e', Int.toNat_of_nonneg hnn] at this
      have := hp j
      omega
/-- so there is a bound -/
theorem Lev.bound (w : WF n T) {d : Nat → Nat} (D : Dist n T p d) (hd : ∀ i, i < n → d i ≤ 3) (hn : n ≤ 4) (hm : 0 ≤ m) (hm2 : m ≤ 2) {j : Nat} {x : List Int} (l : Lev n T p m j x) : j < 64 := by
  have hb : ∀ i, i < x.length → g x i ≤ 15 := by
    intro i hi
    rw [l.len] at hi
    have q := Fail.bound w D hm (d i) i hi rfl l.len l.pos l.fail
    have d3 := hd i hi
    have : m * 2 ^ (d i) ≤ 16 := by
      have h8 : (2 : Int) ^ (d i) ≤ 8 ∧ 0 ≤ (2 : Int) ^ (d i) := by
        rcases (by omega : d i = 0 ∨ d i = 1 ∨ d i = 2 ∨ d i = 3) with e | e | e | e <;> rw [e] <;> decide
      have := Int.mul_le_mul hm2 h8.1 h8.2 (by decide)
      omega
    omega
  have := sum_le_all hb
  rw [l.sum, l.len] at this
  have : (n : Int) ≤ 4 := by omega
  omega

/-! ### the two lower bounds -/
theorem pow2_le {a b : Nat} (h : a ≤ b) : (2 : Int) ^ a ≤ 2 ^ b := by
  induction b with
  | zero =>
    have : a = 0 := by omega
    rw [this]; exact Int.le_refl _
  | succ b ih =>
    by_cases e : a = b + 1
    · rw [e]; exact Int.le_refl _
    · have h1 := ih (by omega)
      have h2 : (0 : Int) < 2 ^ b := Int.pow_pos (by decide)
      rw [Int.pow_succ]; omega
/-- a weighted sum -/
def wsum (wt : Nat → Int) (k : Nat) : List Int → Int
  | [] => 0
  | a :: r => wt k * a + wsum wt (k + 1) r
theorem wsum_set (wt : Nat → Int) : ∀ {l : List Int} {k j : Nat} {y : Int}, j < l.length → wsum wt k (l.set j y) = wsum wt k l - wt (k + j) * g l j + wt (k + j) * y
  | [], _, _, _, h => absurd h (Nat.not_lt_zero _)
  | a :: r, k, 0, y, _ => by
    show wt k * y + wsum wt (k + 1) r = wt k * a + wsum wt (k + 1) r - wt k * a + wt k * y
    omega
  | a :: r, k, j + 1, y, h => by
    have ih := wsum_set wt (l := r) (k := k + 1) (j := j) (y := y) (Nat.lt_of_succ_lt_succ h)
    show wt k * a + wsum wt (k + 1) (r.set j y) = wt k * a + wsum wt (k + 1) r - wt (k + (j + 1)) * g r j + wt (k + (j + 1)) * y
    have e : k + 1 + j = k + (j + 1) := by omega
    rw [ih, e]; omega
theorem wsum_nonneg (wt : Nat → Int) (hw : ∀ i, 0 ≤ wt i) : ∀ {l : List Int} {k : Nat}, (∀ i, 0 ≤ g l i) → 0 ≤ wsum wt k l
  | [], _, _ => Int.le_refl _
  | a :: r, k, hp => by
    have h0 : 0 ≤ a := hp 0
    have h1 := wsum_nonneg wt hw (l := r) (k := k + 1) fun i => hp (i + 1)
    have h2 := Int.mul_nonneg (hw k) h0
    show 0 ≤ wt k * a + wsum wt (k + 1) r
    omega
theorem wsum_one (wt : Nat → Int) (hw : ∀ i, 0 ≤ wt i) : ∀ {l : List Int} {k : Nat} (i : Nat), (∀ i, 0 ≤ g l i) → i < l.length → wt (k + i) * g l i ≤ wsum wt k l
  | [], _, _, _, h => absurd h (Nat.not_lt_zero _)
  | a :: r, k, 0, hp, _ => by
    have h1 := wsum_nonneg wt hw (l := r) (k := k + 1) fun i => hp (i + 1)
    show wt k * a ≤ wt k * a + wsum wt (k + 1) r
    omega
  | a :: r, k, i + 1, hp, h => by
    have h0 : 0 ≤ a := hp 0
    have h1 := wsum_one wt hw (l := r) (k := k + 1) i (fun i => hp (i + 1)) (Nat.lt_of_succ_lt_succ h)
    have h2 := Int.mul_nonneg (hw k) h0
    have e : k + 1 + i = k + (i + 1) := by omega
    rw [e] at h1
    show wt (k + (i + 1)) * g r i ≤ wt k * a + wsum wt (k + 1) r
    omega
/-- weights that bar it -/
theorem fail_of_weights (w : WF n T) (hpn : p < n) (wt : Nat → Int) (hw : ∀ i, 0 ≤ wt i) (htie : ∀ a b, Adj T a b → wt b ≤ 2 * wt a) (hp0 : 0 < wt p) : ∀ (s : Nat) {h : List Int}, h.length = n → (∀ i, 0 ≤ g h i) → h.sum = (s : Int) → wsum wt 0 h < m * wt p → Fail T p m h := by
  intro s
  induction s with
  | zero =>
    intro h hl hp hs hlt
    refine .mk ?_ fun a b ad h2 => ?_
    · have q := wsum_one wt hw (k := 0) p hp (by omega)
      rw [Nat.zero_add] at q
      have q2 : wt p * g h p < wt p * m := by rw [Int.mul_comm (wt p) m]; omega
      exact Int.lt_of_mul_lt_mul_left q2 (Int.le_of_lt hp0)
    · have := g_le_sum a hp
      omega
  | succ s ih =>
    intro h hl hp hs hlt
    refine .mk ?_ fun a b ad h2 => ?_
    · have q := wsum_one wt hw (k := 0) p hp (by omega)
      rw [Nat.zero_add] at q
      have q2 : wt p * g h p < wt p * m := by rw [Int.mul_comm (wt p) m]; omega
      exact Int.lt_of_mul_lt_mul_left q2 (Int.le_of_lt hp0)
    · obtain ⟨wa, wb, ab⟩ := w.adj ad
      refine ih (by rw [doneF_len, hl]) (fun k => ?_) ?_ ?_
      · rw [g_done (by omega) (by omega) ab]
        have := hp k
        split
        · omega
        · split
          · rename_i e; rw [e]; omega
          · exact this
      · rw [sum_done (by omega) (by omega) ab, hs]; omega
      · refine Int.lt_of_le_of_lt ?_ hlt
        unfold doneF
        rw [wsum_set wt (by rw [List.length_set]; omega), wsum_set wt (by omega), Nat.zero_add, Nat.zero_add]
        have t := htie a b ad
        rw [Int.mul_sub, Int.mul_add, Int.mul_one]
        omega
theorem wsum_rep (wt : Nat → Int) : ∀ (n k : Nat), wsum wt k (List.replicate n 0) = 0
  | 0, _ => rfl
  | n + 1, k => by
    show wt k * 0 + wsum wt (k + 1) (List.replicate n 0) = 0
    rw [wsum_rep wt n (k + 1), Int.mul_zero]; rfl
theorem sum_rep : ∀ n : Nat, (List.replicate n (0 : Int)).sum = 0
  | 0 => rfl
  | n + 1 => by rw [List.replicate_succ, List.sum_cons, sum_rep n]; rfl
/-- all stones at a far place -/
theorem need_far (w : WF n T) (hpn : p < n) {d : Nat → Nat} (D : Dist n T p d) {N : Nat} (hm : 1 ≤ m) (a : IsNeed n T p m N) {q : Nat} (hq : q < n) (hmax : ∀ i, i < n → d i ≤ d q) : m * 2 ^ (d q) ≤ (N : Int) := by
  have hpos : 1 ≤ m * 2 ^ (d q) := by
    have h2 : (0 : Int) < 2 ^ (d q) := Int.pow_pos (by decide : (0 : Int) < 2)
    have := Int.mul_le_mul hm (show (1 : Int) ≤ 2 ^ (d q) from h2) (by decide) (by omega)
    omega
  let wt : Nat → Int := fun i => if i < n then 2 ^ (d q - d i) else 0
  have hw : ∀ i, 0 ≤ wt i := fun i => by
    show 0 ≤ (if i < n then (2 : Int) ^ (d q - d i) else 0)
    split
    · exact Int.pow_nonneg (by decide)
    · exact Int.le_refl _
  have wp : wt p = 2 ^ (d q) := by
    show (if p < n then (2 : Int) ^ (d q - d p) else 0) = _
    rw [if_pos hpn, D.zero, Nat.sub_zero]
  have wq : wt q = 1 := by
    show (if q < n then (2 : Int) ^ (d q - d q) else 0) = _
    rw [if_pos hq, Nat.sub_self]; rfl
  have tie : ∀ x y, Adj T x y → wt y ≤ 2 * wt x := fun x y ad => by
    obtain ⟨wx, wy, _⟩ := w.adj ad
    have t := D.tie y x ad.symm
    have m1 := hmax x wx
    have m2 := hmax y wy
    show (if y < n then (2 : Int) ^ (d q - d y) else 0) ≤ 2 * (if x < n then (2 : Int) ^ (d q - d x) else 0)
    rw [if_pos wy, if_pos wx]
    have e : (2 : Int) * 2 ^ (d q - d x) = 2 ^ (d q - d x + 1) := by rw [Int.pow_succ, Int.mul_comm]
    rw [e]
    exact pow2_le (by omega)
  let h : List Int := (List.replicate n 0).set q (m * 2 ^ (d q) - 1)
  have hlen : h.length = n := by
    show ((List.replicate n (0 : Int)).set q _).length = n
    rw [List.length_set, List.length_replicate]
  have hg : ∀ i, g h i = if i = q then m * 2 ^ (d q) - 1 else 0 := fun i => by
    show g ((List.replicate n (0 : Int)).set q _) i = _
    rw [g_set, List.length_replicate]
    by_cases e : i = q
    · rw [if_pos ⟨e, hq⟩, if_pos e]
    · rw [if_neg (fun z => e z.1), if_neg e, g_rep]
  have hpos' : ∀ i, 0 ≤ g h i := fun i => by
    rw [hg]
    split <;> omega
  have hsum : h.sum = ((m * 2 ^ (d q) - 1).toNat : Int) := by
    show ((List.replicate n (0 : Int)).set q _).sum = _
    rw [sum_set (by rw [List.length_replicate]; exact hq), sum_rep, g_rep, Int.toNat_of_nonneg (by omega)]
    omega
  have hws : wsum wt 0 h = m * 2 ^ (d q) - 1 := by
    show wsum wt 0 ((List.replicate n (0 : Int)).set q _) = _
    rw [wsum_set wt (by rw [List.length_replicate]; exact hq), wsum_rep, g_rep, Nat.zero_add, wq]
    omega
  have f : Fail T p m h := fail_of_weights w hpn wt hw tie (by rw [wp]; exact Int.pow_pos (by decide)) _ hlen hpos' hsum (by rw [hws, wp]; omega)
  have := a.gt w ⟨hlen, hpos', hsum, f⟩
  omega
/-- one stone everywhere else -/
theorem need_all (w : WF n T) (hpn : p < n) {N : Nat} (hm : 1 ≤ m) (hm2 : m ≤ 2) (a : IsNeed n T p m N) : m + n - 1 ≤ (N : Int) := by
  let h : List Int := (List.replicate n 1).set p (m - 1)
  have sr : ∀ k : Nat, (List.replicate k (1 : Int)).sum = k := by
    intro k
    induction k with
    | zero => rfl
    | succ k ih => rw [List.replicate_succ, List.sum_cons, ih]; omega
  have gr : ∀ i, g (List.replicate n (1 : Int)) i = if i < n then 1 else 0 := fun i => by
    unfold g
    rw [List.getD_eq_getElem?_getD, List.getElem?_replicate]
    split <;> rfl
  have hlen : h.length = n := by
    show ((List.replicate n (1 : Int)).set p _).length = n
    rw [List.length_set, List.length_replicate]
  have hg : ∀ i, g h i = if i = p then m - 1 else if i < n then 1 else 0 := fun i => by
    show g ((List.replicate n (1 : Int)).set p _) i = _
    rw [g_set, List.length_replicate]
    by_cases e : i = p
    · rw [if_pos ⟨e, hpn⟩, if_pos e]
    · rw [if_neg (fun z => e z.1), if_neg e, gr]
  have hpos' : ∀ i, 0 ≤ g h i := fun i => by
    rw [hg]
    split
    · omega
    · split <;> omega
  have hsum : h.sum = ((n + m.toNat - 2 : Nat) : Int) := by
    show ((List.replicate n (1 : Int)).set p _).sum = _
    rw [sum_set (by rw [List.length_replicate]; exact hpn), sr, gr, if_pos hpn]
    omega
  have f : Fail T p m h := .mk (by rw [hg, if_pos rfl]; omega) fun x y ad h2 => by
    rw [hg] at h2
    split at h2
    · omega
    · split at h2 <;> omega
  have := a.gt w ⟨hlen, hpos', hsum, f⟩
  omega
end
end K64

/-! the mirrors in plain Lean, and what holds of the 25 webs -/
set_option linter.all false
set_option maxRecDepth 100000
namespace K64
/-! ### sorting -/
def ins (x : Nat) : List Nat → List Nat
  | [] => [x]
  | y :: r => if x ≤ y then x :: y :: r else y :: ins x r
def isort : List Nat → List Nat
  | [] => []
  | x :: r => ins x (isort r)
theorem ins_perm (x : Nat) : ∀ l, (ins x l).Perm (x :: l)
  | [] => .refl _
  | y :: r => by
    unfold ins
    split
    · exact .refl _
    · exact ((ins_perm x r).cons y).trans (.swap x y r)
theorem isort_perm : ∀ l, (isort l).Perm l
  | [] => .refl _
  | x :: r => (ins_perm x (isort r)).trans ((isort_perm r).cons x)
theorem ins_sorted (x : Nat) : ∀ {l : List Nat}, l.Pairwise (· ≤ ·) → (ins x l).Pairwise (· ≤ ·)
  | [], _ => List.pairwise_singleton _ _
  | y :: r, h => by
    obtain ⟨h1, h2⟩ := List.pairwise_cons.mp h
    unfold ins
    split
    · rename_i e
      refine List.pairwise_cons.mpr ⟨fun z hz => ?_, h⟩
      rcases List.mem_cons.mp hz with q | q
      · rw [q]; exact e
      · exact Nat.le_trans e (h1 z q)
    · rename_i e
      refine List.pairwise_cons.mpr ⟨fun z hz => ?_, ins_sorted x h2⟩
      rcases List.mem_cons.mp ((ins_perm x r).mem_iff.mp hz) with q | q
      · rw [q]; omega
      · exact h1 z q
theorem isort_sorted : ∀ l : List Nat, (isort l).Pairwise (· ≤ ·)
  | [] => .nil
  | x :: r => ins_sorted x (isort_sorted r)
/-- two rising lists of the same ints are one -/
theorem perm_sorted : ∀ {l m : List Int}, l.Perm m → l.Pairwise (· ≤ ·) → m.Pairwise (· ≤ ·) → l = m
  | [], m, p, _, _ => (List.Perm.eq_nil p.symm).symm
  | x :: l, [], p, _, _ => absurd p.length_eq (by simp)
  | x :: l, y :: m, p, hl, hm => by
    obtain ⟨l1, l2⟩ := List.pairwise_cons.mp hl
    obtain ⟨m1, m2⟩ := List.pairwise_cons.mp hm
    have a : y ≤ x := by
      rcases List.mem_cons.mp (p.mem_iff.mp (List.mem_cons_self (a := x) (l := l))) with e | h
      · omega
      · exact m1 x h
    have b : x ≤ y := by
      rcases List.mem_cons.mp (p.mem_iff.mpr (List.mem_cons_self (a := y) (l := m))) with e | h
      · omega
      · exact l1 y h
    have e : x = y := by omega
    subst e
    rw [perm_sorted p.cons_inv l2 m2]
theorem sorted_is {ns : List Int} {l : List Nat} (p : ns.Perm (l.map fun i : Nat => (i : Int))) (h : ns.Pairwise (· ≤ ·)) : ns = (isort l).map fun i : Nat => (i : Int) := by
  refine perm_sorted (p.trans ((isort_perm l).map _).symm) h ?_
  rw [List.pairwise_map]
  exact (isort_sorted l).imp fun h => Int.ofNat_le.mpr h

/-! ### neighbours, distances -/
def nearF (T : Web) (p : Nat) : List Nat := isort ((T.filter fun e => e.1 == p || e.2 == p).map fun e => e.1 + e.2 - p)
def look (f : List (Nat × Nat)) (x : Nat) : Nat := ((f.find? fun e => e.1 == x).map (·.2)).getD 0
def visit (x : Nat) (f : List (Nat × Nat)) (o : Nat) : List (Nat × Nat) := if o ∈ f.map (·.1) then f else f ++ [(o, look f x + 1)]
def rowAt (f : List (Nat × Nat)) (k : Nat) : Nat := (f.map (·.1)).getD k 0
def bfs (T : Web) (p : Nat) : Nat → List (Nat × Nat)
  | 0 => [(p, 0)]
  | k + 1 => (nearF T (rowAt (bfs T p k) k)).foldl (visit (rowAt (bfs T p k) k)) (bfs T p k)
def dist (n : Nat) (T : Web) (p : Nat) (i : Nat) : Nat := look (bfs T p n) i

/-! ### the webs -/
def pairsF (n : Nat) : Web := (List.range n).flatMap fun a => (List.range (n - (a + 1))).map fun j => (a, a + 1 + j)
def subs : Web → List Web
  | [] => [[]]
  | e :: r => subs r ++ (subs r).map (e :: ·)
theorem filter_subs (f : Nat × Nat → Bool) : ∀ l : Web, l.filter f ∈ subs l
  | [] => List.mem_singleton.mpr rfl
  | e :: r => by
    rw [List.filter_cons]
    unfold subs
    split
    · exact List.mem_append_right _ (List.mem_map.mpr ⟨_, filter_subs f r, rfl⟩)
    · exact List.mem_append_left _ (filter_subs f r)
/-- each place but the first one is tied to one below it -/
def linked (n : Nat) (T : Web) : Bool := (List.range n).all fun k => k == 0 || T.any fun e => e.2 == k
def allW : List (Nat × Web) := [2, 3, 4].flatMap fun n => ((subs (pairsF n)).filter (linked n)).map fun T => (n, T)
def GW (n : Nat) (T : Web) : Prop := (n, T) ∈ allW
def lexN (a b : Nat × Nat) : Prop := a.1 < b.1 ∨ (a.1 = b.1 ∧ a.2 < b.2)
instance (a b : Nat × Nat) : Decidable (lexN a b) := by unfold lexN; infer_instance
theorem lexN_ext : ∀ {l m : Web}, l.Pairwise lexN → m.Pairwise lexN → (∀ x, x ∈ l ↔ x ∈ m) → l = m
  | [], [], _, _, _ => rfl
  | [], y :: m, _, _, h => absurd ((h y).mpr List.mem_cons_self) (by simp)
  | x :: l, [], _, _, h => absurd ((h x).mp List.mem_cons_self) (by simp)
  | x :: l, y :: m, hl, hm, h => by
    obtain ⟨l1, l2⟩ := List.pairwise_cons.mp hl
    obtain ⟨m1, m2⟩ := List.pairwise_cons.mp hm
    have e : x = y := by
      rcases List.mem_cons.mp ((h x).mp List.mem_cons_self) with e | hx
      · exact e
      · rcases List.mem_cons.mp ((h y).mpr List.mem_cons_self) with e | hy
        · exact e.symm
        · have a := m1 x hx
          have b := l1 y hy
          unfold lexN at a b
          omega
    subst e
    have irr : ∀ {k : Web}, (∀ z ∈ k, lexN x z) → x ∉ k := fun hk hx => by
      have := hk x hx
      unfold lexN at this
      omega
    rw [lexN_ext l2 m2 fun z => ⟨fun hz => ?_, fun hz => ?_⟩]
    · rcases List.mem_cons.mp ((h z).mp (List.mem_cons_of_mem _ hz)) with e | q
      · rw [e] at hz; exact absurd hz (irr l1)
      · exact q
    · rcases List.mem_cons.mp ((h z).mpr (List.mem_cons_of_mem _ hz)) with e | q
      · rw [e] at hz; exact absurd hz (irr m1)
      · exact q
theorem pairs_sorted {n : Nat} (h : n = 2 ∨ n = 3 ∨ n = 4) : (pairsF n).Pairwise lexN := by
  rcases h with e | e | e <;> rw [e] <;> decide +kernel
theorem gw_of {n : Nat} {T : Web} (h : n = 2 ∨ n = 3 ∨ n = 4) (s : T.Pairwise lexN) (sub : ∀ e ∈ T, e ∈ pairsF n) (hl : ∀ k, 0 < k → k < n → ∃ e ∈ T, e.2 = k) : GW n T := by
  have e : T = (pairsF n).filter fun e => decide (e ∈ T) := by
    refine lexN_ext s ((pairs_sorted h).filter _) fun x => ?_
    rw [List.mem_filter, decide_eq_true_eq]
    exact ⟨fun hx => ⟨sub x hx, hx⟩, fun hx => hx.2⟩
  have hlk : linked n T = true := by
    unfold linked
    rw [List.all_eq_true]
    intro k hk
    rw [List.mem_range] at hk
    rw [Bool.or_eq_true]
    by_cases z : k = 0
    · exact .inl (by rw [z]; rfl)
    · obtain ⟨e, he, q⟩ := hl k (by omega) hk
      exact .inr (List.any_eq_true.mpr ⟨e, he, by rw [q]; exact beq_self_eq_true k⟩)
  unfold GW allW
  rw [List.mem_flatMap]
  refine ⟨n, by rcases h with e | e | e <;> rw [e] <;> decide, List.mem_map.mpr ⟨T, List.mem_filter.mpr ⟨?_, hlk⟩, rfl⟩⟩
  rw [e]
  exact filter_subs _ _

/-! ### what holds of all of them -/
def okW (W : Nat × Web) : Bool :=
  decide (2 ≤ W.1 ∧ W.1 ≤ 4) && W.2.all (fun e => decide (e.1 < e.2 ∧ e.2 < W.1)) && decide (W.2.Pairwise lexN) && decide (W.2.length ≤ 6) && W.2.all (fun e => decide (e ∈ pairsF W.1)) &&
  (List.range W.1).all fun p =>
    (List.range W.1).all (fun k => decide (k < (bfs W.2 p k).length)) && decide ((bfs W.2 p W.1).length = W.1) &&
    (List.range W.1).all (fun i => decide (i ∈ (bfs W.2 p W.1).map (·.1))) && ((bfs W.2 p W.1).map (·.1)).all (fun i => decide (i < W.1)) &&
    decide (dist W.1 W.2 p p = 0) && W.2.all (fun e => decide (dist W.1 W.2 p e.2 ≤ dist W.1 W.2 p e.1 + 1) && decide (dist W.1 W.2 p e.1 ≤ dist W.1 W.2 p e.2 + 1)) &&
    (List.range W.1).all (fun i => i == p || (List.range W.1).any fun j => (decide ((i, j) ∈ W.2) || decide ((j, i) ∈ W.2)) && decide (dist W.1 W.2 p j + 1 = dist W.1 W.2 p i)) &&
    (List.range W.1).all (fun i => decide (dist W.1 W.2 p i ≤ 3))
theorem all_ok : allW.all okW = true := by decide +kernel
theorem all_len : allW.length = 25 := by decide +kernel
structure Ok (n : Nat) (T : Web) : Prop where
  n2 : 2 ≤ n
  n4 : n ≤ 4
  wf : WF n T
  srt : T.Pairwise lexN
  len : T.length ≤ 6
  prs : ∀ e ∈ T, e ∈ pairsF n
structure OkP (n : Nat) (T : Web) (p : Nat) : Prop where
  go : ∀ k, k < n → k < (bfs T p k).length
  stop : (bfs T p n).length = n
  all : ∀ i, i < n → i ∈ (bfs T p n).map (·.1)
  lt : ∀ i, i ∈ (bfs T p n).map (·.1) → i < n
  dist : Dist n T p (dist n T p)
  d3 : ∀ i, i < n → K64.dist n T p i ≤ 3
theorem okW_of {n : Nat} {T : Web} (h : GW n T) : okW (n, T) = true := List.all_eq_true.mp all_ok _ h
theorem GW.ok {n : Nat} {T : Web} (h : GW n T) : Ok n T := by
  have q := okW_of h
  unfold okW at q
  simp only [Bool.and_eq_true, decide_eq_true_eq, List.all_eq_true] at q
  obtain ⟨⟨⟨⟨⟨h1, h2⟩, h3⟩, h4⟩, h5⟩, _⟩ := q
  exact ⟨h1.1, h1.2, fun a b m => h2 (a, b) m, h3, h4, h5⟩
theorem GW.okP {n : Nat} {T : Web} (h : GW n T) {p : Nat} (hp : p < n) : OkP n T p := by
  have q := okW_of h
  unfold okW at q
  simp only [Bool.and_eq_true, decide_eq_true_eq, List.all_eq_true, List.mem_range, Bool.or_eq_true, List.any_eq_true, beq_iff_eq] at q
  obtain ⟨_, q⟩ := q
  obtain ⟨⟨⟨⟨⟨⟨⟨h1, h2⟩, h3⟩, h4⟩, h5⟩, h6⟩, h7⟩, h8⟩ := q p hp
  refine ⟨h1, h2, h3, fun i hi => h4 i hi, ⟨h5, fun a b ad => ?_, fun i hi ne => ?_⟩, h8⟩
  · rcases ad with ad | ad
    · exact (h6 _ ad).1
    · exact (h6 _ ad).2
  · rcases h7 i hi with e | ⟨j, hj, hk, hd⟩
    · exact absurd e ne
    · exact ⟨j, hj, hk, hd⟩
end K64

/-! levels as the program makes them; how many heaps there are at most -/
set_option linter.all false
set_option maxRecDepth 100000
namespace K64
/-- a heap is taken for one that fails -/
def Okf (T : Web) (p : Nat) (m : Int) (fw : List (List Int)) (x : List Int) : Prop := g x p < m ∧ ∀ a b, Adj T a b → 2 ≤ g x a → doneF x a b ∈ fw
/-- what level j holds -/
def IsLev (n : Nat) (T : Web) (p : Nat) (m : Int) (j : Nat) (L : List (List Int)) : Prop := ∀ x, x ∈ L ↔ Lev n T p m j x
theorem isLev_succ {n : Nat} {T : Web} {p : Nat} {m : Int} {j : Nat} {fw L : List (List Int)} (w : WF n T) (h : IsLev n T p m j fw) (e : ∀ x, x ∈ L ↔ (∃ h ∈ fw, ∃ i, i < n ∧ x = bump h i) ∧ Okf T p m fw x) : IsLev n T p m (j + 1) L := by
  intro x
  rw [e x, lev_succ w]
  constructor
  · rintro ⟨⟨h0, hm, i, hi, ex⟩, h1, h2⟩
    exact ⟨⟨h0, (h h0).mp hm, i, hi, ex⟩, h1, fun a b ad h3 => (h _).mp (h2 a b ad h3)⟩
  · rintro ⟨⟨h0, hm, i, hi, ex⟩, h1, h2⟩
    exact ⟨⟨h0, (h h0).mpr hm, i, hi, ex⟩, h1, fun a b ad h3 => (h _).mpr (h2 a b ad h3)⟩
/-! ### how many at most -/
def codeN : List Int → Nat
  | [] => 0
  | a :: r => a.toNat + 16 * codeN r
theorem codeN_lt : ∀ {x : List Int}, (∀ i, 0 ≤ g x i ∧ g x i ≤ 15) → codeN x < 16 ^ x.length
  | [], _ => by show 0 < 16 ^ 0; decide
  | a :: r, h => by
    have h0 := h 0
    have h1 := codeN_lt (x := r) fun i => h (i + 1)
    have h2 : g (a :: r) 0 = a := rfl
    rw [h2] at h0
    show a.toNat + 16 * codeN r < 16 ^ (r.length + 1)
    rw [Nat.pow_succ]
    omega
theorem codeN_inj : ∀ {x y : List Int}, x.length = y.length → (∀ i, 0 ≤ g x i ∧ g x i ≤ 15) → (∀ i, 0 ≤ g y i ∧ g y i ≤ 15) → codeN x = codeN y → x = y
  | [], [], _, _, _, _ => rfl
  | [], _ :: _, h, _, _, _ => by simp at h
  | _ :: _, [], h, _, _, _ => by simp at h
  | a :: r, b :: q, hl, hx, hy, e => by
    have h0 : 0 ≤ a ∧ a ≤ 15 := hx 0
    have h1 : 0 ≤ b ∧ b ≤ 15 := hy 0
    have e' : a.toNat + 16 * codeN r = b.toNat + 16 * codeN q := e
    have ea : a = b := by omega
    have er : codeN r = codeN q := by omega
    rw [ea, codeN_inj (by simpa using hl) (fun i => hx (i + 1)) (fun i => hy (i + 1)) er]
theorem nodup_le : ∀ (l D : List Nat), l.Nodup → (∀ x ∈ l, x ∈ D) → l.length ≤ D.length
  | [], _, _, _ => Nat.zero_le _
  | x :: l, D, hn, hs => by
    obtain ⟨h1, h2⟩ := List.nodup_cons.mp hn
    have hx : x ∈ D := hs x List.mem_cons_self
    have ih := nodup_le l (D.erase x) h2 fun y hy => by
      have hne : y ≠ x := fun e => h1 (e ▸ hy)
      exact (List.mem_erase_of_ne hne).2 (hs y (List.mem_cons_of_mem _ hy))
    have e := List.length_erase_of_mem hx
    have hp : 0 < D.length := List.length_pos_of_mem hx
    rw [List.length_cons]
    omega
theorem card_le {n : Nat} (hn : n ≤ 4) {L : List (List Int)} (nd : L.Nodup) (hx : ∀ x ∈ L, x.length = n ∧ ∀ i, 0 ≤ g x i ∧ g x i ≤ 15) : L.length ≤ 65536 := by
  have h1 : (L.map codeN).Nodup := by
    unfold List.Nodup
    rw [List.pairwise_map]
    refine List.Pairwise.imp_of_mem (fun {a b} ha hb hne e => hne ?_) nd
    obtain ⟨a1, a2⟩ := hx a ha
    obtain ⟨b1, b2⟩ := hx b hb
    exact codeN_inj (by rw [a1, b1]) a2 b2 e
  have h2 := nodup_le (L.map codeN) (List.range 65536) h1 fun c hc => by
    obtain ⟨x, hm, rfl⟩ := List.mem_map.mp hc
    obtain ⟨a1, a2⟩ := hx x hm
    have := codeN_lt a2
    rw [a1] at this
    have h16 : (16 : Nat) ^ n ≤ 16 ^ 4 := Nat.pow_le_pow_right (by decide) hn
    exact List.mem_range.mpr (by omega)
  rw [List.length_map, List.length_range] at h2
  exact h2
theorem Lev.le15 {n : Nat} {T : Web} {p : Nat} {m : Int} (gw : GW n T) (hp : p < n) (hm : 0 ≤ m) (hm2 : m ≤ 2) {j : Nat} {x : List Int} (l : Lev n T p m j x) : ∀ i, 0 ≤ g x i ∧ g x i ≤ 15 := by
  intro i
  refine ⟨l.pos i, ?_⟩
  have ok := gw.okP hp
  by_cases hi : i < n
  · have q := Fail.bound gw.ok.wf ok.dist hm _ i hi rfl l.len l.pos l.fail
    have d3 := ok.d3 i hi
    have : m * 2 ^ (dist n T p i) ≤ 16 := by
      have h8 : (2 : Int) ^ (dist n T p i) ≤ 8 ∧ 0 ≤ (2 : Int) ^ (dist n T p i) := by
        rcases (by omega : dist n T p i = 0 ∨ dist n T p i = 1 ∨ dist n T p i = 2 ∨ dist n T p i = 3) with e | e | e | e <;> rw [e] <;> decide
      have := Int.mul_le_mul hm2 h8.1 h8.2 (by decide)
      omega
    omega
  · rw [g_out (by rw [l.len]; omega)]; decide
theorem Lev.lt64 {n : Nat} {T : Web} {p : Nat} {m : Int} (gw : GW n T) (hp : p < n) (hm : 0 ≤ m) (hm2 : m ≤ 2) {j : Nat} {x : List Int} (l : Lev n T p m j x) : j < 64 :=
  l.bound gw.ok.wf (gw.okP hp).dist (gw.okP hp).d3 gw.ok.n4 hm hm2
theorem IsLev.card {n : Nat} {T : Web} {p : Nat} {m : Int} (gw : GW n T) (hp : p < n) (hm : 0 ≤ m) (hm2 : m ≤ 2) {j : Nat} {L : List (List Int)} (nd : L.Nodup) (h : ∀ x ∈ L, Lev n T p m j x) : L.length ≤ 65536 :=
  card_le gw.ok.n4 nd fun x hx => ⟨(h x hx).len, (h x hx).le15 gw hp hm hm2⟩
end K64

set_option Elab.async false
set_option linter.all false
set_option maxRecDepth 100000
set_option maxHeartbeats 0
namespace K64
open PySem PySem.Spec PyProof.Rows L2
def top (i : Nat) : Stmt := PySem.Challenge.pw_twoforone_k64_whole_needs_hang_together.main.body.getD i (.Pass ⟨0, 0, 0, 0⟩)
abbrev s_is_whole : Stmt := top 10
abbrev s_is_from : Stmt := top 11
abbrev s_is_two : Stmt := top 12
abbrev s_web_good : Stmt := top 13
abbrev s_need_web : Stmt := top 14
abbrev s_need_place : Stmt := top 15
abbrev s_need_number : Stmt := top 16
abbrev s_need_few : Stmt := top 17
abbrev s_all_steps : Stmt := top 18
abbrev s_done : Stmt := top 19
abbrev s_may_step : Stmt := top 21
abbrev s_near : Stmt := top 23
abbrev s_fars : Stmt := top 24
abbrev s_far : Stmt := top 25
abbrev s_pieces_of : Stmt := top 26
abbrev s_one_piece : Stmt := top 27
abbrev s_need_small : Stmt := top 31
abbrev s_does_fail : Stmt := top 32
abbrev s_more_failing : Stmt := top 33
abbrev s_failing : Stmt := top 34
abbrev s_need_asked : Stmt := top 35
abbrev s_fails : Stmt := top 36
abbrev s_need : Stmt := top 37
abbrev s_worst : Stmt := top 38
abbrev s_law_pairs : Stmt := top 40
abbrev s_law_stir : Stmt := top 41
abbrev s_law_web_by : Stmt := top 42
abbrev s_law_joined_by : Stmt := top 43
abbrev s_law_may : Stmt := top 44
abbrev s_law_moved : Stmt := top 45
abbrev s_law : Stmt := top 46
abbrev FnP (K : PySem.W.Frag) (x : Str) (st : Stmt) (f : Addr) (fd : FuncData) : Prop := FunD K x x (defArgs st) (defBody st) (defScope st) [] [] f fd
def d_is_whole : He.DefD := ⟨("is_whole", none), "is_whole", "is_whole", defArgs s_is_whole, defBody s_is_whole, defScope s_is_whole, [], []⟩
def d_is_from : He.DefD := ⟨("is_from", none), "is_from", "is_from", defArgs s_is_from, defBody s_is_from, defScope s_is_from, [], []⟩
def d_is_two : He.DefD := ⟨("is_two", none), "is_two", "is_two", defArgs s_is_two, defBody s_is_two, defScope s_is_two, [], []⟩
def d_web_good : He.DefD := ⟨("web_good", none), "web_good", "web_good", defArgs s_web_good, defBody s_web_good, defScope s_web_good, [], []⟩
def d_need_web : He.DefD := ⟨("need_web", none), "need_web", "need_web", defArgs s_need_web, defBody s_need_web, defScope s_need_web, [], []⟩
def d_need_place : He.DefD := ⟨("need_place", none), "need_place", "need_place", defArgs s_need_place, defBody s_need_place, defScope s_need_place, [], []⟩
def d_need_number : He.DefD := ⟨("need_number", none), "need_number", "need_number", defArgs s_need_number, defBody s_need_number, defScope s_need_number, [], []⟩
def d_need_few : He.DefD := ⟨("need_few", none), "need_few", "need_few", defArgs s_need_few, defBody s_need_few, defScope s_need_few, [], []⟩
def d_all_steps : He.DefD := ⟨("all_steps", none), "all_steps", "all_steps", defArgs s_all_steps, defBody s_all_steps, defScope s_all_steps, [], []⟩
def d_done : He.DefD := ⟨("done", none), "done", "done", defArgs s_done, defBody s_done, defScope s_done, [], []⟩
def d_may_step : He.DefD := ⟨("may_step", none), "may_step", "may_step", defArgs s_may_step, defBody s_may_step, defScope s_may_step, [], []⟩
def d_near : He.DefD := ⟨("near", none), "near", "near", defArgs s_near, defBody s_near, defScope s_near, [], []⟩
def d_fars : He.DefD := ⟨("fars", none), "fars", "fars", defArgs s_fars, defBody s_fars, defScope s_fars, [], []⟩
def d_far : He.DefD := ⟨("far", none), "far", "far", defArgs s_far, defBody s_far, defScope s_far, [], []⟩
def d_pieces_of : He.DefD := ⟨("pieces_of", none), "pieces_of", "pieces_of", defArgs s_pieces_of, defBody s_pieces_of, defScope s_pieces_of, [], []⟩
def d_one_piece : He.DefD := ⟨("one_piece", none), "one_piece", "one_piece", defArgs s_one_piece, defBody s_one_piece, defScope s_one_piece, [], []⟩
def d_need_small : He.DefD := ⟨("need_small", none), "need_small", "need_small", defArgs s_need_small, defBody s_need_small, defScope s_need_small, [], []⟩
def d_does_fail : He.DefD := ⟨("does_fail", none), "does_fail", "does_fail", defArgs s_does_fail, defBody s_does_fail, defScope s_does_fail, [], []⟩
def d_more_failing : He.DefD := ⟨("more_failing", none), "more_failing", "more_failing", defArgs s_more_failing, defBody s_more_failing, defScope s_more_failing, [], []⟩
def d_failing : He.DefD := ⟨("failing", none), "failing", "failing", defArgs s_failing, defBody s_failing, defScope s_failing, [], []⟩
def d_need_asked : He.DefD := ⟨("need_asked", none), "need_asked", "need_asked", defArgs s_need_asked, defBody s_need_asked, defScope s_need_asked, [], []⟩
def d_fails : He.DefD := ⟨("fails", none), "fails", "fails", defArgs s_fails, defBody s_fails, defScope s_fails, [], []⟩
def d_need : He.DefD := ⟨("need", none), "need", "need", defArgs s_need, defBody s_need, defScope s_need, [], []⟩
def d_worst : He.DefD := ⟨("worst", none), "worst", "worst", defArgs s_worst, defBody s_worst, defScope s_worst, [], []⟩
def d_law_pairs : He.DefD := ⟨("_law_pairs", none), "_law_pairs", "_law_pairs", defArgs s_law_pairs, defBody s_law_pairs, defScope s_law_pairs, [], []⟩
def d_law_stir : He.DefD := ⟨("_law_stir", none), "_law_stir", "_law_stir", defArgs s_law_stir, defBody s_law_stir, defScope s_law_stir, [], []⟩
def d_law_web_by : He.DefD := ⟨("_law_web_by", none), "_law_web_by", "_law_web_by", defArgs s_law_web_by, defBody s_law_web_by, defScope s_law_web_by, [], []⟩
def d_law_joined_by : He.DefD := ⟨("_law_joined_by", none), "_law_joined_by", "_law_joined_by", defArgs s_law_joined_by, defBody s_law_joined_by, defScope s_law_joined_by, [], []⟩
def d_law_may : He.DefD := ⟨("_law_may", none), "_law_may", "_law_may", defArgs s_law_may, defBody s_law_may, defScope s_law_may, [], []⟩
def d_law_moved : He.DefD := ⟨("_law_moved", none), "_law_moved", "_law_moved", defArgs s_law_moved, defBody s_law_moved, defScope s_law_moved, [], []⟩
def d_law : He.DefD := ⟨("law", none), "law", "law", defArgs s_law, defBody s_law, defScope s_law, [], []⟩
def fn1 : List He.DefD := [d_is_whole, d_is_from, d_is_two, d_web_good, d_need_web, d_need_place, d_need_number, d_need_few, d_all_steps, d_done, d_may_step, d_near, d_fars, d_far, d_pieces_of]
def fn2 : List He.DefD := [d_one_piece, d_need_small, d_does_fail, d_more_failing, d_failing, d_need_asked, d_fails, d_need, d_worst, d_law_pairs, d_law_stir, d_law_web_by, d_law_joined_by, d_law_may, d_law_moved, d_law]
def fn : List He.DefD := fn1 ++ fn2
def fa1 : List He.Fa := [.glo "is_whole", .glo "is_from", .glo "is_two", .glo "web_good", .glo "need_web", .glo "need_place", .glo "need_number", .glo "need_few", .glo "all_steps", .glo "done", .glo "may_step", .glo "near", .glo "fars", .glo "far", .glo "pieces_of", .glo "one_piece", .glo "need_small", .glo "does_fail", .glo "more_failing", .glo "failing", .glo "need_asked", .glo "fails", .glo "need", .glo "worst", .glo "_law_pairs", .glo "_law_stir", .glo "_law_web_by", .glo "_law_joined_by", .glo "_law_may", .glo "_law_moved", .glo "law"]
def fa2 : List He.Fa := [.free "isinstance", .free "len", .free "sorted", .free "list", .free "tuple", .free "range", .free "sum", .free "max", .free "enumerate", .free "int", .free "bool", .int "MOST_PLACES" 8, .int "MOST_STONES" 300, .int "MOST_GONE" 6, .int "MOST_BROUGHT" 3]
def fa : List He.Fa := fa1 ++ fa2
def loose1 : List Str := ["StoneError", "NoPlace", "NoNumber", "NotJoined", "NoWeb", "TooGreat", "MOST_PLACES", "MOST_STONES", "MOST_GONE", "MOST_BROUGHT", "is_whole", "is_from", "is_two", "web_good", "need_web", "need_place", "need_number", "need_few", "all_steps", "done", "may_step", "near"]
def loose2 : List Str := ["fars", "far", "pieces_of", "one_piece", "need_small", "does_fail", "more_failing", "failing", "need_asked", "fails", "need", "worst", "_law_pairs", "_law_stir", "_law_web_by", "_law_joined_by", "_law_may", "_law_moved"]
def loose : List Str := loose1 ++ loose2
abbrev R : PySem.W.OpenRow := PySem.W.OpenLaw.row PySem.Challenge.rw_twoforone_k64_whole_needs_hang_together
abbrev hk : PySem.W.Hook := He.hookD 4 fa fn
def ob (s : PySem.W.SharedT) : He.AlD := He.obsDG 4 fa fn (HandSHeadRun.getT s)
theorem ob_eq (s : PySem.W.SharedT) : ob s = hk.obs s.abs := He.obsDG_eq (HandSHeadRun.getT_eq s)
theorem run (w : World) : HandSHeadRun.RunEq R (PySem.W.view R.prog [46]) hk ob 4000 loose w := by
  intro os
  kernel_rfl
end K64

set_option Elab.async false
set_option linter.all false
set_option maxRecDepth 100000
set_option maxHeartbeats 4000000
/-! rules of the layer that this law wants besides -/
namespace K64
open PySem PySem.Spec PyProof.Rows L2
section
variable {X : Cx}
/-- xs[i], for an augmented store -/
theorem get_list : PGet X (rIxL X.K) := by
  intro pins s σ H o i ov iv Q I ro ri h
  obtain ⟨p, xs, i, z, rfl, rfl, hq, he, q⟩ := h
  cases ro
  obtain ⟨t, rfl⟩ := ri
  obtain ⟨its, r, pl, hz⟩ := I.list hq
  obtain ⟨j, h1, h2, h3, h4, h5⟩ := atI_get he
  obtain ⟨w, ew, rw'⟩ := r.get h2
  have hl := r.length
  have hn := line63
  by_cases h0 : 0 ≤ i
  · have hj : i.toNat = j := by
      rw [seqIndex_of h0 h5] at h1
      exact Option.some.inj h1
    exact wpAny_getItem_list pl.isList h0 (by omega) (by rw [hj]; simpa using ew) ⟨z, H, I, rw', q⟩
  · have hj : (i + (its.toArray.size : Int)).toNat = j := by
      rw [seqIndex_neg (by omega) h4] at h1
      rw [List.size_toArray, ← hl]
      exact Option.some.inj h1
    exact wpAny_getItem_list_neg pl.isList (by omega) (by rw [List.size_toArray] <;> omega) (by omega) (by rw [hj]; simpa using ew) ⟨z, H, I, rw', q⟩
/-- x not in t, t a tuple of data -/
def rNotInT (K : PySem.W.Frag) : R2 := fun x y H Q => ∃ d ds, Dp K H x d ∧ Dp K H y (.tuple ds) ∧ SeqAt.shaped d = true ∧ SeqAt.shaped (.tuple ds) = true ∧ Q (.bl (!ds.any fun z => PyData.eqv z d)) H
theorem op_notInT (hu : X.A.units + 65 < cLine) : OpR X (compareOp .NotIn) (rNotInT X.K) := by
  intro pins s σ H x y v u Q I rx ry h
  obtain ⟨d, ds, hd, he, sd, se, q⟩ := h
  obtain ⟨as, r1⟩ := Dp.reads I d x v hd rx
  obtain ⟨bs, r2⟩ := Dp.reads I (.tuple ds) y u he ry
  exact SeqAt.notIn_tuple_reads r2 r1 (SeqAt.canLay_of_shaped se) (SeqAt.canLay_of_shaped sd) (room_in_shaped sd hu) ⟨.bl _, H, I, rfl, q⟩
end
/-! ### sum of a tuple -/
section
variable {prog : Program} {w : World} {A : Around} {E : Value → Shared → Prop} {s : Shared} {l : Addr} {xs : Array (Int × Tok)}
theorem sum_intTup {Q : Value → Shared → Prop} (hh : A.handled = none) (hl : s.heap.IsTuple l (intItems xs))
    (h : ∀ h' tk t', (∀ b o, s.heap.get? b = some o → h'.get? b = some o) → Q (.int (preSum (numAt xs) xs.size) t') { s with heap := h', toks := tk }) :
    wpAny (model prog w) A (call (.builtin "sum") [.ref l]) Q E s := by
  have hlt : l < s.heap.objs.size := by obtain ⟨_, e, _⟩ := hl; exact Heap.lt_size e
  have hsz : ∀ o, (s.heap.push o).objs.size = s.heap.objs.size + 1 := fun o => Heap.size_push ..
  refine call_sum_walkG (wpAny_pyIter_tuple hl ?_)
  refine ⟨_, _, _, _, _, _, numAt xs, rfl, Walks.tuple (A := A.in1) hh _ l (Nat.ne_of_lt hlt) (intItems xs), ⟨⟨_, Heap.get?_push_size _ rfl, rfl, rfl⟩, hl.push _⟩, fun b hb => ?_, (fun _ _ => intItems_at), fun h' tk t' hk => ?_⟩
  · show b < (s.heap.push _).objs.size
    rw [hsz]
    rcases List.mem_cons.mp hb with rfl | hb
    · exact Nat.lt_succ_self _
    · rcases List.mem_cons.mp hb with rfl | hb
      · exact Nat.lt_succ_of_lt hlt
      · cases hb
  · have := h h' tk t' fun b o e => hk b o (fun hm => by
      rcases List.mem_cons.mp hm with e1 | hm
      · exact absurd (e1 ▸ Heap.lt_size e) (Nat.lt_irrefl _)
      · cases hm) (Heap.get?_push_of_some _ e)
    simpa [intItems] using this
end
section
variable {X : Cx}
def rSumT (K : PySem.W.Frag) : List V → Hp → VK → Prop := fun vs H Q => ∃ (a : Addr) (ns : List Int), vs = [V.ref a] ∧ SqT K H a (ns.map V.int) ∧ Q (.int ns.sum) H
theorem cr_sumT (hc : X.calm = true) : CallR X (.builtin "sum") (rSumT X.K) := by
  intro pins s σ H vs us Q I r h
  obtain ⟨a, ns, rfl, hs, q⟩ := h
  obtain ⟨its, rv, hl, _⟩ := I.tuple hs
  rw [Vals.ref1 r]
  obtain ⟨xs, e⟩ := rv.ints.allInts.items
  have hn : numsOf (intItems xs).toList = ns := by rw [← e]; exact rv.ints.numsOf
  rw [nums_intItems] at hn
  rw [e] at hl
  refine sum_intTup (I.ok.hd hc) hl fun h' tk t' hk => ?_
  rw [preSum_eq, List.take_of_length_le (by simp), hn]
  exact ⟨.int _, H, I.kept hk, ⟨_, rfl⟩, q⟩

/-! ### {k: v}, k a tuple -/
def tDispT (tk tv : TE) : TE := fun σ H Q => ∀ p, H p = none → tk σ (upd H p (.dT [])) fun x H1 => tv σ H1 fun y H2 => ∃ (b : Addr) (k : List L2.Key), x = .ref b ∧ H2 b = some (.tup (k.map kV)) ∧ H2 p = some (.dT []) ∧ Q (.ref p) (upd H2 p (.dT [(k, y)]))
theorem pe_dispT {pos : Pos} {k v : Expr} {tk tv : TE} (hu : X.A.units + 1 < cLine) (hk : PE X k tk) (hv : PE X v tv) : PE X (.Dict [some k] [v] pos) (tDispT tk tv) := by
  refine ⟨fun pins s σ H Q I q => ?_⟩
  have hn := I.hok.fresh (Nat.le_refl s.heap.objs.size)
  have I1 := I.laid (a := s.heap.objs.size) (o := .dT []) (h' := s.heap.push { cls := .type "dict", data := .dict #[] }) (t' := s.toks) (fun _ _ q => Heap.get?_push_of_some _ q) (Nat.le_refl _) (dt_empty s.heap I.big)
  have hroom : (tupleKind (mixKind X.prog X.w)).room X.A := by show X.A.units < cLine; omega
  rw [arm_eval_Dict, zip_pairTrees [some k] [v] X.env pos rfl rfl, dictDisplay_pairs (pairTrees [some k] [v] X.env pos) (by intro z; cases z) (by show 1 < 17; decide)]
  refine wpAny_bind (wpAny_standAt (wpAny_bind (wpAny_subDictH (knd := tupleKind (mixKind X.prog X.w)) (Q := fun d s' => wpAny (model X.prog X.w) X.A (pure (Value.ref d)) (EP X pins σ Q) X.xe s') hroom (by show 1 ≤ 15; decide) ?_)))
  refine pairTrees_cons_walk (thn (hk.run pins _ σ _ _ I1 (q _ hn)) fun u s1 ⟨x, H1, I2, rx, q1⟩ => thn (hv.run pins s1 σ H1 _ I2 q1) fun w2 s2 ⟨y, H2, I3, ry, b, ks, ex, hb, hp, q2⟩ => ?_)
  refine pairTrees_nil_walk ?_
  subst ex
  obtain rfl : u = Value.ref b := rx
  obtain ⟨z, hd, xs, rel, dd⟩ := dt_of I3.hok hp
  cases rel
  refine ⟨[(ks, b, w2)], ⟨rfl, rfl, key_of I3.hok hb, trivial⟩, dd, fun h' tk dd' hs => wpAny_pure ?_⟩
  obtain ⟨o, es, ep, h1, h2, h3, h4, h5, h6⟩ := dd'
  refine ⟨.ref s.heap.objs.size, _, d_write I3 (by rw [hp]; exact True.intro) hs ⟨o, h1⟩ (ob := .dT [(ks, y)]) ⟨by show 1 ≤ sizeLine; decide, hd, [(ks, b, w2)], .cons ⟨rfl, ?_, ry⟩ .nil, o, es, ep, h1, h2, h3, h4, h6⟩, rfl, q2⟩
  have hbp : b ≠ s.heap.objs.size := ne_of hb hp (by intro z; cases z)
  rw [upd_ne hbp]
  exact hb

/-! ### sorted of a dict with tuple keys, of any length -/
def rk (h : Heap) (B : Int) (v : Value) : Int := TS.code B (TS.intsOf h v)
def ltK (h : Heap) (B : Int) (v u : Value) : Bool := decide (rk h B v < rk h B u)
theorem swo_rk (h : Heap) (B : Int) : SrtO.Swo (ltK h B) := by
  refine ⟨fun x y e => ?_, fun x y z h1 h2 => ?_⟩
  · have a := of_decide_eq_true (p := rk h B x < rk h B y) e
    exact decide_eq_false (p := rk h B y < rk h B x) (by omega)
  · have a := of_decide_eq_false (p := rk h B y < rk h B x) h1
    have b := of_decide_eq_false (p := rk h B z < rk h B y) h2
    exact decide_eq_false (p := rk h B z < rk h B x) (by omega)
theorem tups_sortable {prog : Program} {w : World} {A : Around} {s : Shared} {a : Addr} {vs : List Value} {d : Nat} {B : Int} (hd : 1 ≤ d) (h2 : 2 ≤ vs.length) (h0 : Heap) (kp : ∀ b o, h0.get? b = some o → b ≠ a ∧ s.heap.get? b = some o) (x : TS.TupsOk h0 d B vs) :
    SrtO.SortableO prog w A s a vs (ltK h0 B) := by
  intro h' keep
  have kk : ∀ b o, h0.get? b = some o → o.cls = .type "tuple" → h'.get? b = some o := fun b o e _ => keep b o (kp b o e).1 (kp b o e).2
  have x' : TS.TupsOk h' d B vs := x.keeps kk
  obtain ⟨fs, k, hl, hi⟩ := TS.firsts_of hd vs x'
  refine ⟨tuples' (Value.type "int" != Value.type "tuple"), fun Q E hq => ?_, fun p q hp hq => ?_⟩
  · refine PySem.W.kat_kind (T := Value.type "int") k (by omega) (fun f hf => ?_) rfl hq
    obtain ⟨n, t, rfl⟩ := hi f hf
    exact PySem.W.Looks.of_pure rfl
  · obtain ⟨ns, tp0, lp, bp⟩ := x _ hp
    obtain ⟨ms, tq0, lq, bq⟩ := x _ hq
    have tp := tp0.keeps kk
    have tq := tq0.keeps kk
    have e0 : ltK h0 B p.1 q.1 = decide (TS.code B ns < TS.code B ms) := by
      unfold ltK rk
      rw [tp0.ints, tq0.ints]
    show wpAny (model prog w) A (keyLt' _ p.1 q.1) (fun r s' => s' = { s with heap := h' } ∧ r = ltK h0 B p.1 q.1) _ _
    rw [e0]
    obtain ⟨a1, xs, e1, ⟨o, ho, hc, n, hdt⟩, i⟩ := tp
    obtain ⟨a2, ys, e2, ⟨o', ho', hc', n', hdt'⟩, i'⟩ := tq
    rw [e1, e2]
    refine PySem.W.kat_lt ho hdt ho' hdt' ?_
    have sz : decide (xs.size < ys.size) = false := by
      have l1 := i.length
      have l2 := i'.length
      rw [Array.length_toList] at l1 l2
      exact decide_eq_false (by omega)
    rw [sz]
    exact TS.lex_ints 0 i i' (by omega) bp bq ⟨rfl, rfl⟩
abbrev iK (k : List Int) : List L2.Key := k.map Sum.inl
theorem iK_V (k : List Int) : (iK k).map kV = k.map V.int := by
  rw [List.map_map]; rfl
theorem keys_zip {H : Hp} : ∀ {kvs : List (List L2.Key × V)} {bs : List Addr} {ns : List (List Int)}, IsKeys H kvs bs → kvs.map (·.1) = ns.map iK → ∃ l : List (Addr × List Int), l.map Prod.fst = bs ∧ l.map Prod.snd = ns ∧ ∀ p ∈ l, H p.1 = some (.tup (p.2.map V.int))
  | [], _, [], .nil, _ => ⟨[], rfl, rfl, fun p hp => absurd hp (by simp)⟩
  | [], _, _ :: _, .nil, e => by simp at e
  | _ :: _, _, [], .cons _ _, e => by simp at e
  | p :: kvs, b :: bs, n :: ns, .cons h t, e => by
    rw [List.map_cons, List.map_cons] at e
    injection e with e1 e2
    obtain ⟨l, h1, h2, h3⟩ := keys_zip t e2
    refine ⟨(b, n) :: l, by rw [List.map_cons, h1], by rw [List.map_cons, h2], fun q hq => ?_⟩
    rcases List.mem_cons.mp hq with e | hq
    · rw [e]
      show H b = some (.tup (n.map V.int))
      rw [← iK_V, ← e1]
      exact h
    · exact h3 q hq
theorem vals_fst : ∀ l : List (Addr × List Int), Vals (l.map fun q => V.ref q.1) (l.map fun q => Value.ref q.1)
  | [] => .nil
  | _ :: r => .cons rfl (vals_fst r)
/-- sorted, once what is handed in has been collected: tuples of d ints, by their code -/
theorem sort_core {pins : List (Addr × Obj)} {σ : L2.St} {H : Hp} {s : Shared} {Q : VK} {a : Addr} {l : List (Addr × List Int)} {d : Nat} {B : Int} (I : Inv X pins σ H s) (hl : ∀ q ∈ l, H q.1 = some (.tup (q.2.map V.int))) (d1 : 1 ≤ d)
    (hn : ∀ q ∈ l, q.2.length = d ∧ TS.Bd B q.2) (hz : l.length ≤ sizeLine)
    (coll : ∀ (R : List Value → Shared → Prop) (E : Value → Shared → Prop), (∀ (h' : Heap) (tk : Nat), (∀ b o, s.heap.get? b = some o → h'.get? b = some o) → R (l.map fun q => Value.ref q.1) { s with heap := h', toks := tk }) → wpAny (model X.prog X.w) X.A.in1 (collect (.ref a)) R E s)
    (q : ∀ (l' : List (Addr × List Int)) (p : Addr), l'.Perm l → l'.Pairwise (fun x y => TS.code B x.2 ≤ TS.code B y.2) → H p = none → Q (.ref p) (upd H p (.lst (l'.map fun q => V.ref q.1)))) :
    wpAny (model X.prog X.w) X.A (call (.builtin "sorted") [.ref a]) (EP X pins σ Q) X.xe s := by
  refine Calls.call_function_entry PyProof.Rows.kind_sorted PyProof.Rows.plain_sorted PyProof.Rows.entry_sorted (PyProof.Rows.args_sorted1 _) ?_
  unfold Builtin.«sorted»
  refine wpAny_bind (m := checkCount "sorted" 1 1 _) (wpAny_pure ?_)
  refine wpAny_bind (coll _ _ fun h' tk kp => ?_)
  generalize hvs : (l.map fun q => Value.ref q.1) = vs
  have hal : vs.length = l.length := by rw [← hvs, List.length_map]
  have I1 : Inv X pins σ H { s with heap := h', toks := tk } := I.kept kp
  refine wpAny_bind (wpAny_newList ?_ (by omega))
  have hoL : (h'.push (seqObj "list" vs.toArray 0)).get? h'.objs.size = some (seqObj "list" vs.toArray 0) := Heap.get?_push_size _ rfl
  show wpAny _ _ _ _ _ { s with heap := h'.push (seqObj "list" vs.toArray 0), toks := tk }
  have ti : ∀ p ∈ l, TS.TupInts h' (.ref p.1) p.2 := fun p hp => by
    obtain ⟨_, its, r2, o2, ho2, hc2, n2, hd2⟩ := I1.hok _ _ (hl p hp)
    exact ⟨p.1, its.toArray, rfl, ⟨o2, ho2, hc2, n2, hd2⟩, by simpa using r2.ints⟩
  have tups : TS.TupsOk h' d B vs := by
    intro v hv
    rw [← hvs] at hv
    obtain ⟨p, hp, e⟩ := List.mem_map.mp hv
    obtain ⟨k1, k2⟩ := hn _ hp
    rw [← e]
    exact ⟨p.2, ti p hp, k1, k2⟩
  refine wpAny_bind (wpAny_holding (wpAny_call_entry PyProof.Rows.slot_list_sort ⟨_, hoL, rfl⟩ PyProof.Rows.entry_list_sort
    (SrtO.list_sort_ord (s := { s with heap := h'.push (seqObj "list" vs.toArray 0), toks := tk }) (swo_rk h' B) hoL (by omega)
      (fun h2 => tups_sortable d1 h2 h' (fun b o e => ⟨Nat.ne_of_lt (Heap.lt_size e), Heap.get?_push_of_some _ e⟩) tups) fun out g1 g2 => ⟨_, rfl, ?_⟩) (PyProof.Rows.args_list_sort _)))
  obtain ⟨e', he'⟩ := PyProof.Rows.sortedHeap_at (vs := vs) (out := out.toArray) hoL
  obtain ⟨l', p1, p2⟩ := perm_lift (fun q : Addr × List Int => Value.ref q.1) g2.perm l hvs
  have hlen : (l'.map fun q => V.ref q.1).length ≤ sizeLine := by
    rw [List.length_map, p1.length_eq]
    omega
  have srt : l'.Pairwise (fun x y => TS.code B x.2 ≤ TS.code B y.2) := by
    have g1' : (l'.map fun q => Value.ref q.1).Pairwise (fun x y => ltK h' B y x = false) := by rw [p2]; exact g1
    rw [List.pairwise_map] at g1'
    refine List.Pairwise.imp_of_mem (fun {x y} hx hy hlt => ?_) g1'
    have a1 := of_decide_eq_false (p := rk h' B (.ref y.1) < rk h' B (.ref x.1)) hlt
    have ex : rk h' B (.ref x.1) = TS.code B x.2 := congrArg (TS.code B) (ti x (p1.mem_iff.mp hx)).ints
    have ey : rk h' B (.ref y.1) = TS.code B y.2 := congrArg (TS.code B) (ti y (p1.mem_iff.mp hy)).ints
    rw [ex, ey] at a1
    omega
  refine wpAny_pure ⟨_, rfl, .ref h'.objs.size, upd H h'.objs.size (.lst (l'.map fun q => V.ref q.1)), I1.laid (t' := tk) (fun b u e => ?_) (Nat.le_refl _)
    (show ObjOk X.prog X.w _ _ _ (.lst (l'.map fun q => V.ref q.1)) from ⟨hlen, out, e', by rw [← p2]; exact vals_fst l', he'⟩), rfl, q l' _ p1 srt (I1.hok.fresh (Nat.le_refl _))⟩
  have hb : b < h'.objs.size := Heap.lt_size e
  rw [PyProof.Rows.sortedHeap_old (Nat.ne_of_lt hb) (by rw [size_push']; exact Nat.lt_succ_of_lt hb)]
  exact Heap.get?_push_of_some _ e
theorem collect_seq {prog : Program} {w : World} {A : Around} {E : Value → Shared → Prop} {s : Shared} {a : Addr} {vs : List Value} {Q : List Value → Shared → Prop} {T : String} (hT : T = "list" ∨ T = "tuple") (ha : ∃ o, s.heap.get? a = some o ∧ o.cls = .type T ∧ ∃ n, o.data = .seq vs.toArray n) (hz : vs.length ≤ sizeLine)
    (h : ∀ h' : Heap, (∀ b o, s.heap.get? b = some o → h'.get? b = some o) → Q vs { s with heap := h' }) : wpAny (model prog w) A (collect (.ref a)) Q E s := by
  obtain ⟨o, ho, hc, n, hd⟩ := ha
  unfold collect
  refine wpAny_bind (wpAny_runValue (codeAny_builtin entry_proto_collect' ?_))
  show wpAny _ _ (do again (.builtin "list.__iadd__" ⟨[← newList [], .ref a], []⟩)) _ _ s
  refine wpAny_bind (wpAny_newList (wpAny_pure ⟨Code.quiet_builtin _ (by decide +kernel), codeAny_builtin entry_list_iadd' ?_⟩))
  show wpAny _ _ (Builtin.List.listExtendWith (.ref s.heap.objs.size) (.ref a) (.ref s.heap.objs.size)) _ _ { s with heap := s.heap.push (seqObj "list" #[] 0) }
  unfold Builtin.List.listExtendWith
  have hk : (s.heap.push (seqObj "list" #[] 0)).get? a = some o := Heap.get?_push_of_some _ ho
  refine wpAny_bind (wpAny_typeOf (T := T) ⟨o, hk, hc⟩ ?_)
  have hL : (Value.type "list" == Value.type "list") = true := by rfl
  have hU : (Value.type "tuple" == Value.type "tuple") = true := by rfl
  rw [if_pos (by
    rcases hT with e | e
    · subst e
      rw [hL]; simp
    · subst e
      rw [hU]; simp)]
  refine wpAny_bind (listItems_at hk hd ?_)
  refine wpAny_bind (listItems_at (xs := #[]) (n := 0) (Heap.get?_push_size _ rfl) rfl ?_)
  rw [if_neg (by simp)]
  refine wpAny_bind (listUpdate_at (xs := #[]) (n := 0) (Heap.get?_push_size _ rfl) rfl ?_ (Nat.zero_le _) (by show (#[] ++ vs.toArray).size ≤ sizeLine + 1; simp only [Array.size_append, List.size_toArray, List.length_nil]; omega))
  refine wpAny_pure ?_
  refine wpAny_bind (wpAny_load (get?_update_seq (Heap.get?_push_size _ rfl) _) ?_)
  show wpAny _ _ (pure ((#[] : Array Value) ++ vs.toArray).toList) Q E _
  rw [show ((#[] : Array Value) ++ vs.toArray).toList = vs by simp]
  refine wpAny_pure (h _ fun b u e => ?_)
  rw [Heap.get?_update_ne _ _ _ _ (Nat.ne_of_lt (Heap.lt_size e))]
  exact Heap.get?_push_of_some _ e
def rSortDT : List V → Hp → VK → Prop := fun vs H Q => ∃ (a : Addr) (kvs : List (List L2.Key × V)) (ns : List (List Int)) (d : Nat) (B : Int), vs = [V.ref a] ∧ Rd H a (.dT kvs) ∧ kvs.map (·.1) = ns.map iK ∧ 1 ≤ d ∧ (∀ k ∈ ns, k.length = d ∧ TS.Bd B k) ∧
  ∀ (l : List (Addr × List Int)) (p : Addr), (l.map Prod.snd).Perm ns → (∀ q ∈ l, H q.1 = some (.tup (q.2.map V.int))) → H p = none → Q (.ref p) (upd H p (.lst (l.map fun q => V.ref q.1)))
theorem cr_sortedDT (hc : X.calm = true) : CallR X (.builtin "sorted") rSortDT := by
  intro pins s σ H vs us Q I r h
  obtain ⟨a, kvs, ns, d, B, rfl, hd, hk, d1, hn, q⟩ := h
  obtain ⟨u, rfl, rx⟩ := vals1 r
  obtain rfl : u = Value.ref a := rx
  obtain ⟨z, hs, ks, pr, o, es, ep, ho, hx, hdt, he, hnd⟩ := (show ObjOk X.prog X.w H s.heap a (.dT kvs) from hd.ok I.hok)
  have l1 : es.size = ks.length := size_of_entries he
  have l2 : kvs.length = ks.length := Paired.length pr
  obtain ⟨l, f1, f2, f3⟩ := keys_zip (isKeys_of pr) hk
  have ll : l.length = ks.length := by
    have e := congrArg List.length f1
    rw [List.length_map, List.length_map] at e
    exact e
  refine sort_core I f3 d1 (fun p hp => hn _ (by rw [← f2]; exact List.mem_map.mpr ⟨p, hp, rfl⟩)) (by omega) (fun R E hR => ?_) fun l' p p1 _ hp => q l' p (by rw [← f2]; exact p1.map _) (fun z hz => f3 z (p1.mem_iff.mp hz)) hp
  refine PySem.W.kdu_collect (A := X.A.in1) (kdl_raw hs hx hdt) (I.ok.hd hc) ho (by omega) fun h' tk acc' kp it => ?_
  have ea : acc'.toList = l.map fun q => Value.ref q.1 := by
    have hl : acc'.toList.length = ks.length := by rw [Array.length_toList, it.1]; exact l1
    have e1 : (ks.map fun x => x.2.1).map Value.ref = (l.map Prod.fst).map Value.ref := by rw [f1]
    rw [List.map_map, List.map_map] at e1
    refine Eq.trans ?_ e1
    apply List.ext_getElem?
    intro j
    rw [List.getElem?_map]
    cases hj : acc'.toList[j]? with
    | none =>
      have h1 := List.getElem?_eq_none_iff.mp hj
      rw [List.getElem?_eq_none (by omega)]
      all_goals rfl
    | some v =>
      obtain ⟨en, hen, hv⟩ := it.2 j v (by rw [← Array.getElem?_toList]; exact hj)
      have qe := entry_at he j
      rw [hen] at qe
      cases hb : ks[j]? with
      | none =>
        rw [hb] at qe
        exact nomatch (show some en = none from qe)
      | some b =>
        rw [hb] at qe
        have e2 : en = entryOfKey (tupleKind (mixKind X.prog X.w)) b := Option.some.inj qe
        rw [hv, e2]
        all_goals rfl
  rw [ea]
  exact hR h' tk kp
/-- sorted of a list, a tuple of tuples of d ints -/
def rSortTT : List V → Hp → VK → Prop := fun vs H Q => ∃ (a : Addr) (l : List (Addr × List Int)) (d : Nat) (B : Int), vs = [V.ref a] ∧ (H a = some (.lst (l.map fun q => V.ref q.1)) ∨ H a = some (.tup (l.map fun q => V.ref q.1))) ∧
  (∀ q ∈ l, H q.1 = some (.tup (q.2.map V.int))) ∧ 1 ≤ d ∧ (∀ q ∈ l, q.2.length = d ∧ TS.Bd B q.2) ∧
  ∀ (l' : List (Addr × List Int)) (p : Addr), l'.Perm l → l'.Pairwise (fun x y => TS.code B x.2 ≤ TS.code B y.2) → H p = none → Q (.ref p) (upd H p (.lst (l'.map fun q => V.ref q.1)))
theorem refs_fst : ∀ {l : List (Addr × List Int)} {its : List Value}, Vals (l.map fun q => V.ref q.1) its → its = l.map fun q => Value.ref q.1
  | [], _, .nil => rfl
  | q :: l, u :: its, .cons r t => by
    obtain rfl : u = Value.ref q.1 := r
    rw [List.map_cons, refs_fst t]
theorem cr_sortedTT : CallR X (.builtin "sorted") rSortTT := by
  intro pins s σ H vs us Q I r h
  obtain ⟨a, l, d, B, rfl, ha, hl, d1, hn, q⟩ := h
  obtain ⟨u, rfl, rx⟩ := vals1 r
  obtain rfl : u = Value.ref a := rx
  rcases ha with ha | ha
  · obtain ⟨hz, its, n, rv, ho⟩ := I.hok _ _ ha
    have e := refs_fst rv
    subst e
    rw [List.length_map] at hz
    exact sort_core I hl d1 hn hz (fun R E hR => collect_seq (.inl rfl) ⟨_, ho, rfl, n, rfl⟩ (by rw [List.length_map]; exact hz) fun h' kp => hR h' s.toks kp) q
  · obtain ⟨hz, its, rv, o, ho, hc, n, hd⟩ := I.hok _ _ ha
    have e := refs_fst rv
    subst e
    rw [List.length_map] at hz
    exact sort_core I hl d1 hn hz (fun R E hR => collect_seq (.inr rfl) ⟨o, ho, hc, n, hd⟩ (by rw [List.length_map]; exact hz) fun h' kp => hR h' s.toks kp) q
end
end K64

set_option Elab.async false
set_option linter.all false
set_option maxRecDepth 100000
set_option maxHeartbeats 4000000
/-! the names of the top, the data on the heap -/
namespace K64
open PySem PySem.Spec PyProof.Rows L2
open C8 (Cal pe_c)
/-- where a def stands -/
def DefAt (K : PySem.W.Frag) (mg : Str → Option Value) (x : Str) (st : Stmt) : Prop := ∃ (f : Addr) (fd : FuncData), FnP K x st f fd ∧ mg x = some (.ref f)
/-- the built-ins, the constants -/
structure Bl (mg : Str → Option Value) : Prop where
  isi : mg "isinstance" = none
  len : mg "len" = none
  sorted : mg "sorted" = none
  list : mg "list" = none
  tuple : mg "tuple" = none
  range : mg "range" = none
  sum : mg "sum" = none
  max : mg "max" = none
  enum : mg "enumerate" = none
  int : mg "int" = none
  bool : mg "bool" = none
  mp : ∃ t, mg "MOST_PLACES" = some (.int 8 t)
  ms : ∃ t, mg "MOST_STONES" = some (.int 300 t)
  mgo : ∃ t, mg "MOST_GONE" = some (.int 6 t)
  mb : ∃ t, mg "MOST_BROUGHT" = some (.int 3 t)
section
variable {P : Program} {w : World} {K : PySem.W.Frag} {mg : Str → Option Value} {base : Heap}
theorem fnok_of {x : Str} {st : Stmt} {N ps : List Str} {k : Nat} {sp : Sp} {f : Addr} {fd : FuncData} (F : FnP K x st f fd) (S : FnScope N ps (defScope st)) (len : ∀ vs H Q E, sp vs H Q E → vs.length = ps.length)
    (hbody : ∀ (cdv : Value) (A : Around) (outer : List Env) (s : Shared) (H : Hp) (vs : List V) (Q : VK) (E : XK), Room k (A.deeper (envOfC x (defScope st) s.heap.objs.size f cdv)) → sp vs H Q E →
      ∃ t, PSs (cxOf CX0 P w K mg base N x (defScope st) f cdv A outer s H E).nox (defBody st) t ∧ t { nx := fun _ H' => Q .non H', rt := Q } (start N vs) H) : FnOk P w K mg base CX0 (k + 1) f fd ps sp := by
  refine F.ok S len fun cdv A outer s H vs Q E hr h => ?_
  obtain ⟨t, h1, h2⟩ := hbody cdv A outer s H vs Q E hr h
  exact ⟨t, h1.nox, h2⟩
theorem cal_of {x : Str} {st : Stmt} {N ps : List Str} {k : Nat} {sp : Sp} (D : DefAt K mg x st) (S : FnScope N ps (defScope st))
    (hb : ∀ (kV doc pm : Value) (an : Option Addr) (cdv ct : Value) (us : List Value), us.length = ps.length → bindArgs (PySem.W.fnOf x x (defArgs st) (defBody st) (defScope st) .none kV doc pm an cdv ct) ⟨us, []⟩ = pure (ps.zip us))
    (len : ∀ vs H Q E, sp vs H Q E → vs.length = ps.length)
    (hbody : ∀ (f : Addr) (cdv : Value) (A : Around) (outer : List Env) (s : Shared) (H : Hp) (vs : List V) (Q : VK) (E : XK), Room k (A.deeper (envOfC x (defScope st) s.heap.objs.size f cdv)) → sp vs H Q E →
      ∃ t, PSs (cxOf CX0 P w K mg base N x (defScope st) f cdv A outer s H E).nox (defBody st) t ∧ t { nx := fun _ H' => Q .non H', rt := Q } (start N vs) H) : Cal P w K mg base (k + 1) x sp [] := by
  obtain ⟨f, fd, F, m⟩ := D
  exact ⟨f, fd, ps, [], fnok_of F S len (hbody f), m, F.kp, F.bindsN hb, .nil⟩
end
theorem same_new {H : Hp} {p : Addr} {o : HO} (h : H p = none) : Same H (upd H p o) := fun b u q => by rw [upd_ne (ne_of_none q h)]; exact q
theorem _root_.L2.Same.newK {H H' : Hp} {p : Addr} {o : HO} (s : Same H H') (h : H' p = none) : Same H (upd H' p o) := s.trans (same_new h)
/-- a store at what was not tracked before -/
theorem _root_.L2.Same.putK {H H' : Hp} {p : Addr} {o : HO} (s : Same H H') (h : H p = none) : Same H (upd H' p o) := fun b u q => by
  rw [upd_ne (ne_of_none q h)]; exact s b u q
theorem _root_.L2.Same.sqT {K : PySem.W.Frag} {H H' : Hp} {a : Addr} {xs : List V} (e : Same H H') (h : SqT K H a xs) : SqT K H' a xs := by
  rcases h with (h | ⟨o, h⟩) | h
  · exact .inl (.inl (e _ _ h))
  · exact .inl (.inr ⟨o, e _ _ h⟩)
  · exact .inr h
/-- pairs of places -/
def prV (e : Nat × Nat) : List V := [.int (e.1 : Int), .int (e.2 : Int)]
abbrev Prs (H : Hp) : List Addr → List (Nat × Nat) → Prop := Paired fun r e => H r = some (.tup (prV e))
theorem Prs.same {H H' : Hp} (s : Same H H') {rs : List Addr} {L : List (Nat × Nat)} (h : Prs H rs L) : Prs H' rs L := Paired.mapP h fun _ _ e => s _ _ e
theorem Prs.get {H : Hp} : ∀ {rs : List Addr} {L : List (Nat × Nat)} {i : Nat} {e : Nat × Nat}, Prs H rs L → L[i]? = some e → ∃ r, rs[i]? = some r ∧ H r = some (.tup (prV e))
  | _, _, _, _, .nil, h => by simp at h
  | _, _, 0, _, .cons h _, q => by
    have := Option.some.inj (show some _ = some _ from q)
    subst this
    exact ⟨_, rfl, h⟩
  | _, _, i + 1, e, .cons _ t, q => by
    obtain ⟨r, h1, h2⟩ := Prs.get (i := i) (e := e) t (by simpa using q)
    exact ⟨r, by simpa using h1, h2⟩
theorem Prs.len {H : Hp} {rs : List Addr} {L : List (Nat × Nat)} (h : Prs H rs L) : rs.length = L.length := Paired.length h
theorem Prs.snoc {H : Hp} {rs : List Addr} {L : List (Nat × Nat)} {r : Addr} {e : Nat × Nat} (h : Prs H rs L) (q : H r = some (.tup (prV e))) : Prs H (rs ++ [r]) (L ++ [e]) := Paired.snoc h q
theorem Prs.append {H : Hp} : ∀ {rs qs : List Addr} {L M : List (Nat × Nat)}, Prs H rs L → Prs H qs M → Prs H (rs ++ qs) (L ++ M)
  | _, _, _, _, .nil, h => h
  | _, _, _, _, .cons h t, q => .cons h (Prs.append t q)
/-- a web on the heap -/
def WebAt (H : Hp) (a : Addr) (n : Nat) (T : Web) : Prop := ∃ (t : Addr) (rs : List Addr), H a = some (.tup [.int (n : Int), .ref t]) ∧ H t = some (.tup (rs.map V.ref)) ∧ Prs H rs T
theorem WebAt.same {H H' : Hp} (s : Same H H') {a : Addr} {n : Nat} {T : Web} (h : WebAt H a n T) : WebAt H' a n T := by
  obtain ⟨t, rs, h1, h2, h3⟩ := h
  exact ⟨t, rs, s _ _ h1, s _ _ h2, h3.same s⟩
/-- heaps (of stones) on the heap -/
def HAt (H : Hp) (a : Addr) (h : List Int) : Prop := H a = some (.tup (h.map V.int))
theorem HAt.same {H H' : Hp} (s : Same H H') {a : Addr} {h : List Int} (q : HAt H a h) : HAt H' a h := s _ _ q
theorem g_at {h : List Int} {i : Nat} (hi : i < h.length) : atI (h.map V.int) (i : Int) = some (.int (g h i)) := by
  refine atI_nat ?_
  unfold g
  rw [List.getElem?_map, List.getD_eq_getElem?_getD, List.getElem?_eq_getElem hi]
  rfl
theorem two_at0 {a b : V} : atI [a, b] 0 = some a := rfl
theorem two_at1 {a b : V} : atI [a, b] 1 = some b := rfl

/-! ### numbers, places, webs -/
section
variable {P : Program} {w : World} {K : PySem.W.Frag} {mg : Str → Option Value} {base : Heap}
theorem sc_is_whole : FnScope ["thing"] ["thing"] (defScope s_is_whole) := ⟨rfl, rfl, rfl, by decide +kernel, rfl, by decide +kernel, by decide +kernel⟩
def spWhole : Sp := fun vs H Q _ => ∃ i : Int, vs = [.int i] ∧ Q (.bl true) H
theorem c_is_whole (B : Bl mg) (D : DefAt K mg "is_whole" s_is_whole) : Cal P w K mg base 1 "is_whole" spWhole [] := by
  refine cal_of D sc_is_whole (fun _ _ _ _ _ _ us hl => match us, hl with | [_], _ => rfl) (fun vs H Q E h => ?_) (fun f cdv A outer s H vs Q E hr h => ?_)
  · obtain ⟨i, rfl, _⟩ := h; rfl
  obtain ⟨i, rfl, q⟩ := h
  refine ⟨_, pss_one (ps_ret (pe_and (pe_callB call_isi (by rfl) B.isi (by decide +kernel) (pa_cons (pv 0) (pa_cons (pe_bltn (v := .ty "int") (by rfl) B.int (by decide +kernel) rfl) pa_nil)))
    (pe_one (pe_not (pe_callB call_isi (by rfl) B.isi (by decide +kernel) (pa_cons (pv 0) (pa_cons (pe_bltn (v := .ty "bool") (by rfl) B.bool (by decide +kernel) rfl) pa_nil))))))), ?_⟩
  refine ⟨_, rfl, .int i, .ty "int", .type "int", .type "int", true, rfl, .ty "int", .base (.int i), kit_ty (by decide +kernel), true, rfl, iteT ?_⟩
  refine ⟨_, rfl, .int i, .ty "bool", .type "int", .type "bool", false, rfl, .ty "bool", .base (.int i), kit_ty (by decide +kernel), false, rfl, q⟩

theorem sc_is_from : FnScope ["thing", "least", "most"] ["thing", "least", "most"] (defScope s_is_from) := ⟨rfl, rfl, rfl, by decide +kernel, rfl, by decide +kernel, by decide +kernel⟩
def spFrom : Sp := fun vs H Q _ => ∃ i l m : Int, vs = [.int i, .int l, .int m] ∧ Q (.bl (decide (l ≤ i ∧ i ≤ m))) H
theorem c_is_from (c1 : Cal P w K mg base 1 "is_whole" spWhole []) (D : DefAt K mg "is_from" s_is_from) : Cal P w K mg base 2 "is_from" spFrom [] := by
  refine cal_of D sc_is_from (fun _ _ _ _ _ _ us hl => match us, hl with | [_, _, _], _ => rfl) (fun vs H Q E h => ?_) (fun f cdv A outer s H vs Q E hr h => ?_)
  · obtain ⟨i, l, m, rfl, _⟩ := h; rfl
  obtain ⟨i, l, m, rfl, q⟩ := h
  refine ⟨_, pss_one (ps_ret (pe_and (pe_c c1 hr (by decide) (by rfl) (pa_cons (pv 0) pa_nil)) (pe_one (pe_chain op_le op_le (pv 1) (pv 0) (pv 2))))), ?_⟩
  refine ⟨_, rfl, i, rfl, true, rfl, iteT ?_⟩
  refine ⟨_, rfl, _, rfl, _, _, rfl, rfl, _, rfl, ite2 (fun e => ?_) (fun e => ?_)⟩
  · refine ⟨_, rfl, _, _, rfl, rfl, ?_⟩
    have e1 : l ≤ i := of_decide_eq_true e
    have e2 : decide (l ≤ i ∧ i ≤ m) = decide (i ≤ m) := decide_eq_decide.mpr ⟨fun z => z.2, fun z => ⟨e1, z⟩⟩
    rw [e2] at q
    exact q
  · have e1 : ¬ l ≤ i := fun z => e (decide_eq_true z)
    have e2 : decide (l ≤ i ∧ i ≤ m) = false := decide_eq_false fun z => e1 z.1
    rw [e2] at q
    exact q

theorem sc_is_two : FnScope ["thing", "many"] ["thing", "many"] (defScope s_is_two) := ⟨rfl, rfl, rfl, by decide +kernel, rfl, by decide +kernel, by decide +kernel⟩
def spTwo : Sp := fun vs H Q _ => ∃ (r : Addr) (e : Nat × Nat) (n : Nat), vs = [.ref r, .int (n : Int)] ∧ H r = some (.tup (prV e)) ∧ e.1 < n ∧ e.2 < n ∧ e.1 ≠ e.2 ∧ Q (.bl true) H
theorem c_is_two (B : Bl mg) (c2 : Cal P w K mg base 2 "is_from" spFrom []) (D : DefAt K mg "is_two" s_is_two) : Cal P w K mg base 3 "is_two" spTwo [] := by
  refine cal_of D sc_is_two (fun _ _ _ _ _ _ us hl => match us, hl with | [_, _], _ => rfl) (fun vs H Q E h => ?_) (fun f cdv A outer s H vs Q E hr h => ?_)
  · obtain ⟨r, e, n, rfl, _⟩ := h; rfl
  obtain ⟨r, e, n, rfl, hH, h1, h2, h3, q⟩ := h
  refine ⟨_, pss_cons (ps_if (PW.pt (pw_or (pt_not (pt_val (pe_callB call_isi (by rfl) B.isi (by decide +kernel) (pa_cons (pv 0) (pa_cons (pe_bltn (v := .ty "tuple") (by rfl) B.tuple (by decide +kernel) rfl) pa_nil)))))
      (pw_or1 (pt_cmpR op_ne (pe_callB call_len_seq (by rfl) B.len PySem.boot_len (pa_cons (pv 0) pa_nil)) pe_int (nomark _))))) (pss_one (ps_ret pe_bl)) pss_nil)
    (pss_one (ps_ret (pe_and (pe_c c2 hr (by decide) (by rfl) (pa_cons (pe_ix ix_tup (pv 0) pe_int (fun _ _ => rfl)) (pa_cons pe_int (pa_cons (pe_op op_sub (pv 1) pe_int) pa_nil))))
      (pe_and (pe_c c2 hr (by decide) (by rfl) (pa_cons (pe_ix ix_tup (pv 0) pe_int (fun _ _ => rfl)) (pa_cons pe_int (pa_cons (pe_op op_sub (pv 1) pe_int) pa_nil))))
        (pe_one (pe_cmpR op_ne (pe_ix ix_tup (pv 0) pe_int (fun _ _ => rfl)) (pe_ix ix_tup (pv 0) pe_int (fun _ _ => rfl)) (nomark _))))))), ?_⟩
  have hT : SqT K H r (prV e) := SqT.of hH
  refine ⟨_, rfl, .ref r, .ty "tuple", .type "tuple", .type "tuple", true, rfl, .ty "tuple", .base (.tup hH), kit_ty (by decide +kernel), true, rfl, iteF ?_⟩
  refine ⟨_, rfl, r, _, rfl, .inr hT, rfl, _, rfl, iteF ?_⟩
  refine ⟨_, rfl, r, _, 0, _, rfl, rfl, hT, rfl, _, rfl, _, _, rfl, rfl, _, _, _, rfl, _, rfl, ?_⟩
  rw [decide_eq_true (show (0 : Int) ≤ (e.1 : Int) ∧ (e.1 : Int) ≤ (n : Int) - 1 by omega)]
  refine iteT ?_
  refine ⟨_, rfl, r, _, 1, _, rfl, rfl, hT, rfl, _, rfl, _, _, rfl, rfl, _, _, _, rfl, _, rfl, ?_⟩
  rw [decide_eq_true (show (0 : Int) ≤ (e.2 : Int) ∧ (e.2 : Int) ≤ (n : Int) - 1 by omega)]
  refine iteT ?_
  refine ⟨_, rfl, r, _, 0, _, rfl, rfl, hT, rfl, _, rfl, r, _, 1, _, rfl, rfl, hT, rfl, rfl, ?_⟩
  have e0 : decide (V.int (e.1 : Int) = V.int (e.2 : Int)) = false := decide_eq_false fun z => by
    have := V.int.inj z
    omega
  rw [e0]
  exact q
end
end K64

set_option Elab.async false
set_option linter.all false
set_option maxRecDepth 100000
set_option maxHeartbeats 4000000
/-! webs looked through; steps -/
namespace K64
open PySem PySem.Spec PyProof.Rows L2
open C8 (Cal pe_c)
section
variable {P : Program} {w : World} {K : PySem.W.Frag} {mg : Str → Option Value} {base : Heap}
theorem sc_web_good : FnScope ["thing", "last", "tie"] ["thing"] (defScope s_web_good) := ⟨rfl, rfl, rfl, by decide +kernel, rfl, by decide +kernel, by decide +kernel⟩
def spGood : Sp := fun vs H Q _ => ∃ (a : Addr) (n : Nat) (T : Web), vs = [.ref a] ∧ WebAt H a n T ∧ Ok n T ∧ ∀ H', Same H H' → Q (.bl true) H'
theorem le_no {e : Nat × Nat} {x y : Int} (h : x < (e.1 : Int) ∨ (x = (e.1 : Int) ∧ y < (e.2 : Int))) :
    Ob.lexAt (fun j => decide (([(e.1 : Int), (e.2 : Int)] : List Int).getD j 0 = ([x, y] : List Int).getD j 0)) (fun j => decide (([(e.1 : Int), (e.2 : Int)] : List Int).getD j 0 ≤ ([x, y] : List Int).getD j 0)) (decide (([(e.1 : Int), (e.2 : Int)] : List Int).length ≤ ([x, y] : List Int).length)) 0 (min ([(e.1 : Int), (e.2 : Int)] : List Int).length ([x, y] : List Int).length) = false := by
  show (if decide ((e.1 : Int) = x) = true then (if decide ((e.2 : Int) = y) = true then decide (2 ≤ 2) else decide ((e.2 : Int) ≤ y)) else decide ((e.1 : Int) ≤ x)) = false
  by_cases e1 : (e.1 : Int) = x
  · rw [if_pos (decide_eq_true e1)]
    have h2 : y < (e.2 : Int) := by omega
    rw [if_neg (by rw [decide_eq_true_eq]; omega)]
    exact decide_eq_false (by omega)
  · rw [if_neg (by rw [decide_eq_true_eq]; exact e1)]
    exact decide_eq_false (by omega)
theorem c_web_good (B : Bl mg) (c2 : Cal P w K mg base 2 "is_from" spFrom []) (c3 : Cal P w K mg base 3 "is_two" spTwo []) (D : DefAt K mg "web_good" s_web_good) : Cal P w K mg base 4 "web_good" spGood [] := by
  refine cal_of D sc_web_good (fun _ _ _ _ _ _ us hl => match us, hl with | [_], _ => rfl) (fun vs H Q E h => ?_) (fun f cdv A outer s H vs Q E hr h => ?_)
  · obtain ⟨a, n, T, rfl, _⟩ := h; rfl
  obtain ⟨a, n, T, rfl, ⟨t, rs, h1, h2, h3⟩, ok, q⟩ := h
  obtain ⟨tk, hmp⟩ := B.mp
  have nd := sc_web_good.nd
  refine ⟨_, pss_cons (ps_if (PW.pt (pw_or (pt_not (pt_val (pe_callB call_isi (by rfl) B.isi (by decide +kernel) (pa_cons (pv 0) (pa_cons (pe_bltn (v := .ty "tuple") (by rfl) B.tuple (by decide +kernel) rfl) pa_nil)))))
      (pw_or (pt_cmpR op_ne (pe_callB call_len_seq (by rfl) B.len PySem.boot_len (pa_cons (pv 0) pa_nil)) pe_int (nomark _))
        (pw_or1 (pt_not (pt_val (pe_c c2 hr (by decide) (by rfl) (pa_cons (pe_ix ix_tup (pv 0) pe_int (fun _ _ => rfl)) (pa_cons pe_int (pa_cons (pe_glob (v := .int 8) (by rfl) hmp ⟨_, rfl⟩) pa_nil)))))))))) (pss_one (ps_ret pe_bl)) pss_nil)
    (pss_cons (ps_if (pt_not (pt_val (pe_callB call_isi (by rfl) B.isi (by decide +kernel) (pa_cons (pe_ix ix_tup (pv 0) pe_int (fun _ _ => rfl)) (pa_cons (pe_bltn (v := .ty "tuple") (by rfl) B.tuple (by decide +kernel) rfl) pa_nil))))) (pss_one (ps_ret pe_bl)) pss_nil)
    (pss_cons (ps_set (i := 1) nd rfl (.inl rfl) (pe_tup (pa_cons (pe_un un_neg pe_int) (pa_cons (pe_un un_neg pe_int) pa_nil))))
    (pss_cons (ps_for PassesOwn.never rfl (pi_tup (pe_ix ix_tup (pv 0) pe_int (fun _ _ => rfl))) (pg_name (i := 2) nd rfl (.inl rfl))
      (pss_cons (ps_if (PW.pt (pw_or (pt_not (pt_val (pe_c c3 hr (by decide) (by rfl) (pa_cons (pv 2) (pa_cons (pe_ix ix_tup (pv 0) pe_int (fun _ _ => rfl)) pa_nil)))))
          (pw_or (pt_cmpR op_gt (pe_ix ix_tup (pv 2) pe_int (fun _ _ => rfl)) (pe_ix ix_tup (pv 2) pe_int (fun _ _ => rfl)) (nomark _))
            (pw_or1 (pt_cmpR (op_leT hr.units0) (pv 2) (pv 1) (nomark _)))))) (pss_one (ps_ret pe_bl)) pss_nil)
        (pss_one (ps_set (i := 1) nd rfl (.inl rfl) (pv 2)))))
    (pss_one (ps_ret pe_bl))))), ?_⟩
  have hA : SqT K H a [.int (n : Int), .ref t] := SqT.of h1
  have hT : SqT K H t (rs.map V.ref) := SqT.of h2
  have n2 := ok.n2
  have n4 := ok.n4
  refine ⟨_, rfl, .ref a, .ty "tuple", .type "tuple", .type "tuple", true, rfl, .ty "tuple", .base (.tup h1), kit_ty (by decide +kernel), true, rfl, iteF ?_⟩
  refine ⟨_, rfl, a, _, rfl, .inr hA, rfl, _, rfl, iteF ?_⟩
  refine ⟨_, rfl, a, _, 0, _, rfl, rfl, hA, rfl, _, _, _, rfl, _, rfl, ?_⟩
  rw [decide_eq_true (show (1 : Int) ≤ (n : Int) ∧ (n : Int) ≤ 8 by omega)]
  refine iteF ?_
  refine ⟨_, rfl, a, _, 1, _, rfl, rfl, hA, rfl, .ref t, .ty "tuple", .type "tuple", .type "tuple", true, rfl, .ty "tuple", .base (.tup h2), kit_ty (by decide +kernel), true, rfl, iteF ?_⟩
  refine ⟨_, rfl, _, rfl, (by show 2 ≤ sizeLine; decide), fun l hl => ?_⟩
  have s1 : Same H (upd H l (.tup [.int (-1), .int (-1)])) := same_new hl
  refine ⟨_, rfl, a, _, 1, _, rfl, rfl, s1.sqT hA, rfl, t, rfl, ⟨_, s1.sqT hT⟩, for_tup (K := K) (a := t) (xs := rs.map V.ref)
    (fun i σ H' => ∃ (la : Addr) (x y : Int) (v : Option V), σ = [some (.ref a), some (.ref la), v] ∧ Same H H' ∧ H' la = some (.tup [.int x, .int y]) ∧ ∀ e, T[i]? = some e → x < (e.1 : Int) ∨ (x = (e.1 : Int) ∧ y < (e.2 : Int)))
    ⟨l, -1, -1, none, rfl, s1, upd_same, fun e _ => by omega⟩ (fun i σ H' _ ⟨_, _, _, _, _, s2, _⟩ => s2.sqT hT) ?_ ?_⟩
  · rintro i z σ H' hi ⟨la, x, y, v, rfl, s2, hla, hlt⟩
    obtain ⟨r, hr0, rfl⟩ : ∃ r, rs[i]? = some r ∧ z = .ref r := by
      rw [List.getElem?_map] at hi
      cases e : rs[i]? with
      | none => rw [e] at hi; cases hi
      | some r => rw [e] at hi; exact ⟨r, rfl, (Option.some.inj hi).symm⟩
    have hil : i < T.length := by
      have := (List.getElem?_eq_some_iff.mp hr0).1
      rw [h3.len] at this; exact this
    obtain ⟨r', hr1, hr2⟩ := h3.get (List.getElem?_eq_getElem hil)
    rw [hr0] at hr1
    obtain rfl := Option.some.inj hr1
    have hrH : H' r = some (.tup (prV T[i])) := s2 _ _ hr2
    have hrT : SqT K H' r (prV T[i]) := SqT.of hrH
    obtain ⟨w1, w2⟩ := ok.wf _ _ (show (T[i].1, T[i].2) ∈ T from List.getElem_mem hil)
    have hq := hlt _ (List.getElem?_eq_getElem hil)
    refine ⟨_, rfl, _, rfl, a, _, 0, _, rfl, rfl, s2.sqT hA, rfl, r, T[i], n, rfl, hrH, by omega, w2, by omega, true, rfl, iteF ?_⟩
    refine ⟨_, rfl, r, _, 0, _, rfl, rfl, hrT, rfl, _, rfl, r, _, 1, _, rfl, rfl, hrT, rfl, _, _, rfl, rfl, _, rfl, ?_⟩
    rw [decide_eq_false (show ¬ (T[i].2 : Int) < (T[i].1 : Int) by omega)]
    refine iteF ?_
    refine ⟨_, rfl, _, rfl, r, la, [(T[i].1 : Int), (T[i].2 : Int)], [x, y], rfl, rfl, hrT, SqT.of hla, _, rfl, ?_⟩
    rw [le_no hq]
    refine iteF ?_
    refine ⟨_, rfl, r, (T[i].1 : Int), (T[i].2 : Int), _, rfl, s2, hrH, fun e he => ?_⟩
    obtain ⟨hj, ee⟩ := List.getElem?_eq_some_iff.mp he
    have lx := List.pairwise_iff_getElem.mp ok.srt i (i + 1) hil hj (Nat.lt_succ_self i)
    rw [ee] at lx
    unfold lexN at lx
    omega
  · rintro σ H' ⟨la, x, y, v, rfl, s2, _⟩
    exact q H' s2

theorem sc_need_web : FnScope ["web"] ["web"] (defScope s_need_web) := ⟨rfl, rfl, rfl, by decide +kernel, rfl, by decide +kernel, by decide +kernel⟩
def spNeedWeb : Sp := fun vs H Q _ => ∃ (a : Addr) (n : Nat) (T : Web), vs = [.ref a] ∧ WebAt H a n T ∧ Ok n T ∧ ∀ H', Same H H' → Q .non H'
theorem c_need_web (c4 : Cal P w K mg base 4 "web_good" spGood []) (D : DefAt K mg "need_web" s_need_web) : Cal P w K mg base 5 "need_web" spNeedWeb [] := by
  refine cal_of D sc_need_web (fun _ _ _ _ _ _ us hl => match us, hl with | [_], _ => rfl) (fun vs H Q E h => ?_) (fun f cdv A outer s H vs Q E hr h => ?_)
  · obtain ⟨a, n, T, rfl, _⟩ := h; rfl
  obtain ⟨a, n, T, rfl, hW, ok, q⟩ := h
  refine ⟨_, pss_one (ps_if (pt_not (pt_val (pe_c c4 hr (by decide) (by rfl) (pa_cons (pv 0) pa_nil)))) pss_never pss_nil), ?_⟩
  exact ⟨_, rfl, a, n, T, rfl, hW, ok, fun H' s => ⟨true, rfl, iteF (q H' s)⟩⟩

theorem sc_need_place : FnScope ["web", "place"] ["web", "place"] (defScope s_need_place) := ⟨rfl, rfl, rfl, by decide +kernel, rfl, by decide +kernel, by decide +kernel⟩
def spNeedPlace : Sp := fun vs H Q _ => ∃ (a : Addr) (n : Nat) (T : Web) (p : Nat), vs = [.ref a, .int (p : Int)] ∧ WebAt H a n T ∧ p < n ∧ Q .non H
theorem c_need_place (c2 : Cal P w K mg base 2 "is_from" spFrom []) (D : DefAt K mg "need_place" s_need_place) : Cal P w K mg base 3 "need_place" spNeedPlace [] := by
  refine cal_of D sc_need_place (fun _ _ _ _ _ _ us hl => match us, hl with | [_, _], _ => rfl) (fun vs H Q E h => ?_) (fun f cdv A outer s H vs Q E hr h => ?_)
  · obtain ⟨a, n, T, p, rfl, _⟩ := h; rfl
  obtain ⟨a, n, T, p, rfl, ⟨t, rs, h1, h2, h3⟩, hp, q⟩ := h
  refine ⟨_, pss_one (ps_if (pt_not (pt_val (pe_c c2 hr (by decide) (by rfl) (pa_cons (pv 1) (pa_cons pe_int (pa_cons (pe_op op_sub (pe_ix ix_tup (pv 0) pe_int (fun _ _ => rfl)) pe_int) pa_nil)))))) pss_never pss_nil), ?_⟩
  refine ⟨_, rfl, _, rfl, a, _, 0, _, rfl, rfl, SqT.of h1, rfl, _, _, rfl, rfl, _, _, _, rfl, _, rfl, ?_⟩
  rw [decide_eq_true (show (0 : Int) ≤ (p : Int) ∧ (p : Int) ≤ (n : Int) - 1 by omega)]
  exact iteF q

theorem sc_need_number : FnScope ["number", "least", "most"] ["number", "least", "most"] (defScope s_need_number) := ⟨rfl, rfl, rfl, by decide +kernel, rfl, by decide +kernel, by decide +kernel⟩
def spNeedNumber : Sp := fun vs H Q _ => ∃ i l m : Int, vs = [.int i, .int l, .int m] ∧ l ≤ i ∧ i ≤ m ∧ Q .non H
theorem c_need_number (c2 : Cal P w K mg base 2 "is_from" spFrom []) (D : DefAt K mg "need_number" s_need_number) : Cal P w K mg base 3 "need_number" spNeedNumber [] := by
  refine cal_of D sc_need_number (fun _ _ _ _ _ _ us hl => match us, hl with | [_, _, _], _ => rfl) (fun vs H Q E h => ?_) (fun f cdv A outer s H vs Q E hr h => ?_)
  · obtain ⟨i, l, m, rfl, _⟩ := h; rfl
  obtain ⟨i, l, m, rfl, h1, h2, q⟩ := h
  refine ⟨_, pss_one (ps_if (pt_not (pt_val (pe_c c2 hr (by decide) (by rfl) (pa_cons (pv 0) (pa_cons (pv 1) (pa_cons (pv 2) pa_nil)))))) pss_never pss_nil), ?_⟩
  refine ⟨_, rfl, _, rfl, _, rfl, _, _, _, rfl, _, rfl, ?_⟩
  rw [decide_eq_true (show l ≤ i ∧ i ≤ m from ⟨h1, h2⟩)]
  exact iteF q

theorem sc_need_few : FnScope ["many", "most"] ["many", "most"] (defScope s_need_few) := ⟨rfl, rfl, rfl, by decide +kernel, rfl, by decide +kernel, by decide +kernel⟩
def spNeedFew : Sp := fun vs H Q _ => ∃ i m : Int, vs = [.int i, .int m] ∧ i ≤ m ∧ Q .non H
theorem c_need_few (D : DefAt K mg "need_few" s_need_few) : Cal P w K mg base 1 "need_few" spNeedFew [] := by
  refine cal_of D sc_need_few (fun _ _ _ _ _ _ us hl => match us, hl with | [_, _], _ => rfl) (fun vs H Q E h => ?_) (fun f cdv A outer s H vs Q E hr h => ?_)
  · obtain ⟨i, m, rfl, _⟩ := h; rfl
  obtain ⟨i, m, rfl, h1, q⟩ := h
  refine ⟨_, pss_one (ps_if (pt_cmpR op_gt (pv 0) (pv 1) (nomark _)) pss_never pss_nil), ?_⟩
  refine ⟨_, rfl, _, rfl, _, _, rfl, rfl, _, rfl, ?_⟩
  rw [decide_eq_false (show ¬ m < i by omega)]
  exact iteF q
end
end K64

set_option Elab.async false
set_option linter.all false
set_option maxRecDepth 100000
set_option maxHeartbeats 4000000
/-! steps -/
namespace K64
open PySem PySem.Spec PyProof.Rows L2
open C8 (Cal pe_c)
theorem Prs.zip {H : Hp} : ∀ {rs : List Addr} {L : List (Nat × Nat)}, Prs H rs L → ∃ l : List (Addr × (Nat × Nat)), l.map Prod.fst = rs ∧ l.map Prod.snd = L ∧ ∀ q ∈ l, H q.1 = some (.tup (prV q.2))
  | _, _, .nil => ⟨[], rfl, rfl, fun q hq => absurd hq (by simp)⟩
  | r :: rs, e :: L, .cons h t => by
    obtain ⟨l, h1, h2, h3⟩ := Prs.zip t
    refine ⟨(r, e) :: l, by rw [List.map_cons, h1], by rw [List.map_cons, h2], fun q hq => ?_⟩
    rcases List.mem_cons.mp hq with z | hq
    · rw [z]; exact h
    · exact h3 q hq
theorem Prs.unzip {H : Hp} : ∀ {l : List (Addr × (Nat × Nat))}, (∀ q ∈ l, H q.1 = some (.tup (prV q.2))) → Prs H (l.map Prod.fst) (l.map Prod.snd)
  | [], _ => .nil
  | q :: l, h => .cons (h q List.mem_cons_self) (Prs.unzip fun x hx => h x (List.mem_cons_of_mem _ hx))
theorem Prs.perm {H : Hp} {rs : List Addr} {L : List (Nat × Nat)} {ys : List V} (h : Prs H rs L) (p : ys.Perm (rs.map V.ref)) : ∃ rs' L', ys = rs'.map V.ref ∧ Prs H rs' L' ∧ L'.Perm L := by
  obtain ⟨l, h1, h2, h3⟩ := h.zip
  have e : l.map (fun q => V.ref q.1) = rs.map V.ref := by rw [← h1, List.map_map]; rfl
  obtain ⟨l', p1, p2⟩ := perm_lift (fun q : Addr × (Nat × Nat) => V.ref q.1) p l e
  refine ⟨l'.map Prod.fst, l'.map Prod.snd, ?_, Prs.unzip fun q hq => h3 q (p1.mem_iff.mp hq), ?_⟩
  · rw [← p2, List.map_map]; rfl
  · rw [← h2]; exact p1.map _
theorem Prs.refs {H : Hp} {rs : List Addr} {L : List (Nat × Nat)} (h : Prs H rs L) : ∀ x ∈ rs.map V.ref, ∃ t i j, x = V.ref t ∧ H t = some (.tup [.int i, .int j]) := by
  intro x hx
  obtain ⟨l, h1, h2, h3⟩ := h.zip
  rw [← h1, List.map_map] at hx
  obtain ⟨q, hq, e⟩ := List.mem_map.mp hx
  exact ⟨q.1, _, _, e.symm, h3 q hq⟩
theorem refs_at {rs : List Addr} {i : Nat} {x : V} (h : (rs.map V.ref)[i]? = some x) : ∃ r, rs[i]? = some r ∧ x = .ref r := by
  rw [List.getElem?_map] at h
  cases e : rs[i]? with
  | none => rw [e] at h; cases h
  | some r => rw [e] at h; exact ⟨r, rfl, (Option.some.inj h).symm⟩
/-- the i-th reference is the i-th pair -/
theorem Prs.at {H : Hp} {rs : List Addr} {L : List (Nat × Nat)} {i : Nat} {x : V} (h : Prs H rs L) (hi : (rs.map V.ref)[i]? = some x) : ∃ (r : Addr) (e : Nat × Nat), x = .ref r ∧ rs[i]? = some r ∧ L[i]? = some e ∧ H r = some (.tup (prV e)) := by
  obtain ⟨r, h1, rfl⟩ := refs_at hi
  have hl : i < L.length := by
    have := (List.getElem?_eq_some_iff.mp h1).1
    rw [h.len] at this; exact this
  obtain ⟨r', h2, h3⟩ := h.get (List.getElem?_eq_getElem hl)
  rw [h1] at h2
  obtain rfl := Option.some.inj h2
  exact ⟨r, L[i], rfl, h1, List.getElem?_eq_getElem hl, h3⟩
theorem take_succ' {α : Type} {l : List α} {i : Nat} {e : α} (h : l[i]? = some e) : l.take (i + 1) = l.take i ++ [e] := by
  rw [List.take_add_one, h]; rfl
theorem le1000 {n : Nat} (h : n ≤ 1000) : n ≤ sizeLine := Nat.le_of_lt (small1000 h)
abbrev gPair (K : PySem.W.Frag) (i j : Nat) : TG := gTup K 2 (gCons (gName i) (gCons (gName j) gNil))
theorem set_map {h : List Int} {i : Nat} {x : Int} : (h.map V.int).set i (.int x) = (h.set i x).map V.int := by rw [List.map_set]
theorem ixN_of {n i : Nat} (h : i < n) : ixN n (i : Int) = some i := by
  unfold ixN
  rw [if_pos (by omega), if_pos (by omega)]
  rfl
section
variable {P : Program} {w : World} {K : PySem.W.Frag} {mg : Str → Option Value} {base : Heap}
theorem sc_all_steps : FnScope ["web", "a", "b"] ["web"] (defScope s_all_steps) := ⟨rfl, rfl, rfl, by decide +kernel, rfl, by decide +kernel, by decide +kernel⟩
def spAll : Sp := fun vs H Q _ => ∃ (a : Addr) (n : Nat) (T : Web), vs = [.ref a] ∧ WebAt H a n T ∧ T.length ≤ 6 ∧
  ∀ (H' : Hp) (p : Addr) (rs : List Addr) (L : Web), Same H H' → H p = none → H' p = some (.lst (rs.map V.ref)) → Prs H' rs L → (∀ e, e ∈ L ↔ Adj T e.1 e.2) → L.length ≤ 12 → Q (.ref p) H'
theorem c_all_steps (B : Bl mg) (D : DefAt K mg "all_steps" s_all_steps) : Cal P w K mg base 1 "all_steps" spAll [] := by
  refine cal_of D sc_all_steps (fun _ _ _ _ _ _ us hl => match us, hl with | [_], _ => rfl) (fun vs H Q E h => ?_) (fun f cdv A outer s H vs Q E hr h => ?_)
  · obtain ⟨a, n, T, rfl, _⟩ := h; rfl
  obtain ⟨a, n, T, rfl, ⟨t, rs, h1, h2, h3⟩, h6, q⟩ := h
  have nd := sc_all_steps.nd
  refine ⟨_, pss_one (ps_ret (pe_callB cr_sortedP (by rfl) B.sorted (by decide +kernel) (pa_cons (pe_op op_cat
    (pe_callTy call_list_of (by rfl) B.list (by decide +kernel) (pa_cons (pe_ix ix_tup (pv 0) pe_int (fun _ _ => rfl)) pa_nil))
    (pe_lc (own := [("a", 1), ("b", 2)]) (g := gPair K 1 2) (tt := tYes) (by rfl) nd (pi_tup (pe_ix ix_tup (pv 0) pe_int (fun _ _ => rfl))) (blkOk_by (N := ["web", "a", "b"]) (sc := defScope s_all_steps) (by decide +kernel))
      (fun _ _ _ _ _ => pg_tup rfl (pgs_cons (pg_name (i := 1) nd rfl (Or.inl rfl)) (pgs_cons (pg_name (i := 2) nd rfl (Or.inl rfl)) pgs_nil))) (fun _ _ _ _ _ => pts_nil)
      (fun _ _ _ _ _ => pe_tup (pa_cons (pv 2) (pa_cons (pv 1) pa_nil))))) pa_nil))), ?_⟩
  have hA : SqT K H a [.int (n : Int), .ref t] := SqT.of h1
  have hT : SqT K H t (rs.map V.ref) := SqT.of h2
  refine ⟨_, rfl, a, _, 1, _, rfl, rfl, hA, rfl, t, _, rfl, .inr hT, fun l hl => ?_⟩
  have s1 : Same H (upd H l (.lst (rs.map V.ref))) := same_new hl
  refine ⟨_, rfl, a, _, 1, _, rfl, rfl, s1.sqT hA, rfl, t, rfl, ⟨_, s1.sqT hT⟩, fun Dl hD => ?_⟩
  have lD : l ≠ Dl := ne_of_none upd_same hD
  refine lc_tup (K := K) (a := t) (xs := rs.map V.ref) (fun i H' => ∃ qs : List Addr, Same (upd H l (.lst (rs.map V.ref))) H' ∧ H' Dl = some (.lst (qs.map V.ref)) ∧ Prs H' qs ((T.take i).map fun e => (e.2, e.1)))
    ⟨[], same_new hD, upd_same, .nil⟩ (fun i H' _ ⟨_, s2, _⟩ => s2.sqT (s1.sqT hT)) ?_ ?_
  · rintro i x H' hi ⟨qs, s2, hq, pq⟩
    obtain ⟨r, e, rfl, hr0, he, hre⟩ := h3.at hi
    have hrH : H' r = some (.tup (prV e)) := s2 _ _ (s1 _ _ hre)
    refine ⟨r, prV e, rfl, SqT.of hrH, rfl, _, _, rfl, _, _, rfl, rfl, rfl, ?_⟩
    dsimp only [tYes]
    rw [if_pos rfl]
    refine ⟨_, rfl, _, rfl, (by show 2 ≤ sizeLine; decide), fun p hp => ?_⟩
    have s3 : Same H' (upd H' p (.tup (prV (e.2, e.1)))) := same_new hp
    have hDp : Dl ≠ p := ne_of_none hq hp
    have hql : qs.length = i := by
      have := pq.len
      have hlt := (List.getElem?_eq_some_iff.mp he).1
      rw [List.length_map, List.length_take] at this
      omega
    have hlt := (List.getElem?_eq_some_iff.mp he).1
    refine ⟨qs.map V.ref, s3 _ _ hq, by rw [List.length_map]; exact small1000 (by omega), qs ++ [p], (s2.trans s3).putK hD, by rw [upd_same, List.map_append]; rfl, ?_⟩
    rw [take_succ' he, List.map_append]
    refine Prs.snoc (Paired.mapP pq fun r' e' h' => ?_) ?_
    · rw [upd_ne (ne_of (s3 _ _ h') (s3 _ _ hq) (by intro z; cases z))]
      exact s3 _ _ h'
    · rw [upd_ne hDp.symm, upd_same]; rfl
  · rintro H' ⟨qs, s2, hq, pq⟩
    have hl' : H' l = some (.lst (rs.map V.ref)) := s2 _ _ upd_same
    have sH : Same H H' := s1.trans s2
    have pr : Prs H' rs T := h3.same sH
    rw [List.length_map, h3.len, List.take_of_length_le (Nat.le_refl _)] at pq
    have lq := pq.len
    rw [List.length_map] at lq
    refine ⟨l, Dl, _, _, rfl, rfl, hl', hq, by rw [List.length_map, List.length_map, h3.len, lq]; exact le1000 (by omega), fun m hm => ?_⟩
    have s4 : Same H (upd H' m (.lst (rs.map V.ref ++ qs.map V.ref))) := sH.newK hm
    have pall : Prs (upd H' m (.lst (rs.map V.ref ++ qs.map V.ref))) (rs ++ qs) (T ++ T.map fun e => (e.2, e.1)) := (pr.append pq).same (same_new hm)
    refine ⟨m, _, rfl, SqL.of upd_same, ?_, fun ys p perm hp => ?_⟩
    · intro x hx
      rw [← List.map_append] at hx
      exact pall.refs x hx
    rw [← List.map_append] at perm
    obtain ⟨rs', L', ey, pr', pL⟩ := pall.perm perm
    refine q _ p rs' L' (s4.newK hp) (s4.free hp) (by rw [upd_same, ey]) (pr'.same (same_new hp)) (fun e => ?_) ?_
    · rw [pL.mem_iff, List.mem_append, List.mem_map]
      refine ⟨fun h => ?_, fun h => ?_⟩
      · rcases h with h | ⟨e', h, rfl⟩
        · exact .inl h
        · exact .inr h
      · rcases h with h | h
        · exact .inl h
        · exact .inr ⟨(e.2, e.1), h, rfl⟩
    · rw [pL.length_eq, List.length_append, List.length_map]; omega

theorem sc_done : FnScope ["heap", "step", "a", "b", "found"] ["heap", "step"] (defScope s_done) := ⟨rfl, rfl, rfl, by decide +kernel, rfl, by decide +kernel, by decide +kernel⟩
def spDone : Sp := fun vs H Q _ => ∃ (ha sa : Addr) (h : List Int) (e : Nat × Nat), vs = [.ref ha, .ref sa] ∧ HAt H ha h ∧ H sa = some (.tup (prV e)) ∧ e.1 < h.length ∧ e.2 < h.length ∧
  ∀ (H' : Hp) (p : Addr), Same H H' → H p = none → HAt H' p (doneF h e.1 e.2) → Q (.ref p) H'
theorem c_done (B : Bl mg) (D : DefAt K mg "done" s_done) : Cal P w K mg base 1 "done" spDone [] := by
  refine cal_of D sc_done (fun _ _ _ _ _ _ us hl => match us, hl with | [_, _], _ => rfl) (fun vs H Q E h => ?_) (fun f cdv A outer s H vs Q E hr h => ?_)
  · obtain ⟨ha, sa, h, e, rfl, _⟩ := h; rfl
  obtain ⟨ha, sa, h, e, rfl, hh, hs, h1, h2, q⟩ := h
  have nd := sc_done.nd
  refine ⟨_, pss_cons (ps_asg (pv 1) (pg_tup rfl (pgs_cons (pg_name (i := 2) nd rfl (Or.inl rfl)) (pgs_cons (pg_name (i := 3) nd rfl (Or.inl rfl)) pgs_nil))))
    (pss_cons (ps_set (i := 4) nd rfl (.inl rfl) (pe_callTy call_list_of (by rfl) B.list (by decide +kernel) (pa_cons (pv 0) pa_nil)))
    (pss_cons (ps_augS (pv 4) (pv 2) get_list pe_int ip_sub set_list)
    (pss_cons (ps_augS (pv 4) (pv 3) get_list pe_int ip_add set_list)
    (pss_one (ps_ret (pe_callTy call_tuple_of (by rfl) B.tuple (by decide +kernel) (pa_cons (pv 4) pa_nil))))))), ?_⟩
  refine ⟨_, rfl, sa, prV e, rfl, SqT.of hs, rfl, _, _, rfl, _, _, rfl, rfl, ?_⟩
  refine ⟨_, rfl, ha, _, rfl, .inr (SqT.of hh), fun l hl => ?_⟩
  refine ⟨_, rfl, _, rfl, l, _, (e.1 : Int), _, rfl, rfl, SqL.of upd_same, g_at h1, _, _, rfl, rfl, l, _, _, e.1, rfl, rfl, upd_same, ?_, ?_⟩
  · rw [List.length_map]; exact ixN_of h1
  have l1 : (h.set e.1 (g h e.1 - 2)).length = h.length := List.length_set
  rw [set_map, upd_upd]
  refine ⟨_, rfl, _, rfl, l, _, (e.2 : Int), _, rfl, rfl, SqL.of upd_same, g_at (by rw [l1]; exact h2), _, _, rfl, rfl, l, _, _, e.2, rfl, rfl, upd_same, ?_, ?_⟩
  · rw [List.length_map, l1]; exact ixN_of h2
  rw [set_map, upd_upd]
  refine ⟨_, rfl, l, _, rfl, .inl ⟨SqL.of upd_same, fun p hp => ?_⟩⟩
  have s1 : Same H (upd H l (.lst ((doneF h e.1 e.2).map V.int))) := same_new hl
  exact q _ p (s1.newK hp) (s1.free hp) upd_same

theorem sc_may_step : FnScope ["web", "heap", "step"] ["web", "heap"] (defScope s_may_step) := ⟨rfl, rfl, rfl, by decide +kernel, rfl, by decide +kernel, by decide +kernel⟩
def spMay : Sp := fun vs H Q _ => ∃ (wa ha : Addr) (n : Nat) (T : Web) (h : List Int), vs = [.ref wa, .ref ha] ∧ WebAt H wa n T ∧ Ok n T ∧ HAt H ha h ∧ h.length = n ∧
  ∀ (H' : Hp) (p : Addr) (rs : List Addr) (L : Web), Same H H' → H p = none → H' p = some (.lst (rs.map V.ref)) → Prs H' rs L → (∀ e, e ∈ L ↔ Adj T e.1 e.2 ∧ 2 ≤ g h e.1) → L.length ≤ 12 → Q (.ref p) H'
theorem c_may_step (cA : Cal P w K mg base 1 "all_steps" spAll []) (D : DefAt K mg "may_step" s_may_step) : Cal P w K mg base 2 "may_step" spMay [] := by
  refine cal_of D sc_may_step (fun _ _ _ _ _ _ us hl => match us, hl with | [_, _], _ => rfl) (fun vs H Q E h => ?_) (fun f cdv A outer s H vs Q E hr h => ?_)
  · obtain ⟨wa, ha, n, T, h, rfl, _⟩ := h; rfl
  obtain ⟨wa, ha, n, T, h, rfl, hW, ok, hh, hn, q⟩ := h
  have nd := sc_may_step.nd
  refine ⟨_, pss_one (ps_ret (pe_lc (own := [("step", 2)]) (g := gName 2) (by rfl) nd (pi_list (pe_c cA hr (by decide) (by rfl) (pa_cons (pv 0) pa_nil))) (blkOk_by (N := ["web", "heap", "step"]) (sc := defScope s_may_step) (by decide +kernel))
      (fun _ _ _ _ _ => pg_name (i := 2) nd rfl (Or.inl rfl)) (fun _ _ _ _ _ => pts_one (pt_cmpR op_ge (pe_ix (r := rIxT K) ix_tup (pv 1) (pe_ix (r := rIxT K) ix_tup (pv 2) pe_int (fun _ _ => rfl)) (fun _ _ => rfl)) pe_int (nomark _)))
      (fun _ _ _ _ _ => pv 2))), ?_⟩
  refine ⟨_, rfl, wa, n, T, rfl, hW, ok.len, fun H1 l rs L s1 nl hl pr mem len => ?_⟩
  refine ⟨l, rfl, ⟨_, SqL.of hl⟩, fun Dl hD => ?_⟩
  refine lc_list (K := K) (a := l) (xs := rs.map V.ref) (fun i H' => ∃ (qs : List Addr), Same H1 H' ∧ H' Dl = some (.lst (qs.map V.ref)) ∧ Prs H' qs ((L.take i).filter fun e => decide (2 ≤ g h e.1)))
    ⟨[], same_new hD, upd_same, .nil⟩ (fun i H' _ ⟨_, s2, _⟩ => s2.seq (SqL.of hl)) ?_ ?_
  · rintro i x H' hi ⟨qs, s2, hq, pq⟩
    obtain ⟨r, e, rfl, hr0, he, hre⟩ := pr.at hi
    have hrH : H' r = some (.tup (prV e)) := s2 _ _ hre
    have hhH : HAt H' ha h := (hh.same s1).same s2
    have hlt := (List.getElem?_eq_some_iff.mp he).1
    have hm := (mem e).mp (List.mem_of_getElem? he)
    obtain ⟨w1, w2, _⟩ := ok.wf.adj hm
    have hql : qs.length ≤ 12 := by
      have := pq.len
      have h1 := List.length_filter_le (fun e => decide (2 ≤ g h e.1)) (L.take i)
      rw [List.length_take] at h1
      omega
    refine ⟨rfl, _, rfl, _, rfl, r, _, 0, _, rfl, rfl, SqT.of hrH, rfl, ha, _, (e.1 : Int), _, rfl, rfl, SqT.of hhH, g_at (by omega), _, _, rfl, rfl, _, rfl, ?_⟩
    rw [take_succ' he, List.filter_append]
    refine ite2 (fun c => ?_) (fun c => ?_)
    · have c' : 2 ≤ g h e.1 := of_decide_eq_true c
      refine ⟨_, rfl, qs.map V.ref, hq, by rw [List.length_map]; exact small1000 (by omega), qs ++ [r], s2.putK hD, by rw [upd_same, List.map_append]; rfl, ?_⟩
      have e1 : [e].filter (fun e => decide (2 ≤ g h e.1)) = [e] := by
        simp [c']
      rw [e1]
      refine Prs.snoc (Paired.mapP pq fun r' e' h' => ?_) ?_
      · rw [upd_ne (ne_of h' hq (by intro z; cases z))]; exact h'
      · rw [upd_ne (ne_of hrH hq (by intro z; cases z))]; exact hrH
    · have c' : ¬ 2 ≤ g h e.1 := fun z => c (decide_eq_true z)
      have e1 : [e].filter (fun e => decide (2 ≤ g h e.1)) = [] := by
        simp [c']
      rw [e1, List.append_nil]
      exact ⟨qs, s2, hq, pq⟩
  · rintro H' ⟨qs, s2, hq, pq⟩
    rw [List.length_map, pr.len, List.take_of_length_le (Nat.le_refl _)] at pq
    refine q H' Dl qs _ (s1.trans s2) (s1.free hD) hq pq (fun e => ?_) (Nat.le_trans (List.length_filter_le _ _) len)
    rw [List.mem_filter, decide_eq_true_eq, mem]
end
end K64

set_option Elab.async false
set_option linter.all false
set_option maxRecDepth 100000
set_option maxHeartbeats 4000000
/-! heaps that fail -/
namespace K64
open PySem PySem.Spec PyProof.Rows L2
open C8 (Cal pe_c)
/-- the dict of these heaps, each with True -/
def dKeys (fw : List (List Int)) : List (List L2.Key × V) := fw.map fun k => (iK k, V.bl true)
theorem iK_inj {a b : List Int} (h : iK a = iK b) : a = b := by
  induction a generalizing b with
  | nil => cases b with
    | nil => rfl
    | cons _ _ => cases h
  | cons x r ih => cases b with
    | nil => cases h
    | cons y q =>
      injection h with h1 h2
      rw [Sum.inl.inj h1, ih h2]
theorem dKeys_get (fw : List (List Int)) (x : List Int) : (valV (dKeys fw) (iK x)).isSome = decide (x ∈ fw) := by
  induction fw with
  | nil => rfl
  | cons y r ih =>
    show (valV ((iK y, V.bl true) :: dKeys r) (iK x)).isSome = _
    by_cases e : y = x
    · subst e
      rw [valV_pos rfl]
      exact (decide_eq_true List.mem_cons_self).symm
    · rw [valV_neg (fun z => e (iK_inj z)), ih]
      refine decide_eq_decide.mpr ⟨List.mem_cons_of_mem _, fun h => ?_⟩
      rcases List.mem_cons.mp h with h | h
      · exact absurd h.symm e
      · exact h
theorem dKeys_put {fw : List (List Int)} {x : List Int} (h : x ∉ fw) : putK (dKeys fw) (iK x) (V.bl true) = dKeys (fw ++ [x]) := by
  have hn : valV (dKeys fw) (iK x) = none := by
    have := dKeys_get fw x
    rw [decide_eq_false h] at this
    cases e : valV (dKeys fw) (iK x) with
    | none => rfl
    | some v => rw [e] at this; cases this
  rw [putK_new _ hn]
  unfold dKeys
  rw [List.map_append]
  rfl
theorem dKeys_len (fw : List (List Int)) : (dKeys fw).length = fw.length := List.length_map _
theorem HAt.key {H : Hp} {a : Addr} {h : List Int} (q : HAt H a h) : H a = some (.tup ((iK h).map kV)) := by rw [iK_V]; exact q
theorem same_rd {H H' : Hp} (s : Same H H') {a : Addr} {u : HO} (h : Rd H a u) : Rd H' a u := by
  rcases h with h | ⟨o, h⟩
  · exact .inl (s _ _ h)
  · exact .inr ⟨o, s _ _ h⟩
theorem dget {H : Hp} {fa q : Addr} {fw : List (List Int)} {x : List Int} (h : Rd H fa (.dT (dKeys fw))) (k : HAt H q x) : DGet H fa (.ref q) (valV (dKeys fw) (iK x)) := .inr ⟨_, iK x, q, h, rfl, k.key, rfl⟩
/-! ### tuples put together -/
section
variable {K : PySem.W.Frag} {H : Hp} {Q : VK}
theorem sl_any {a : Addr} {xs : List V} {lo hi : Option Int} (hx : H a = some (.tup xs)) (k : ∀ H' p, Same H H' → H' p = some (.tup (cutV xs lo hi)) → Q (.ref p) H') : rSlA K (.ref a) lo hi H Q := by
  refine ⟨a, xs, rfl, SqT.of hx, fun hw => k H a (Same.refl _) ?_, fun _ p hp => k _ p (same_new hp) upd_same⟩
  unfold cutV
  rw [hw.1, hw.2, List.drop_zero, Nat.sub_zero, List.take_length]
  exact hx
theorem cat_any {a b : Addr} {xs ys : List V} (hx : H a = some (.tup xs)) (hy : H b = some (.tup ys)) (hl : xs.length + ys.length ≤ sizeLine) (k : ∀ H' p, Same H H' → H' p = some (.tup (xs ++ ys)) → Q (.ref p) H') : rCatA K (.ref a) (.ref b) H Q := by
  refine ⟨a, b, xs, ys, rfl, rfl, SqT.of hx, SqT.of hy, hl, fun e => k H b (Same.refl _) (by rw [e]; exact hy), fun _ e => k H a (Same.refl _) (by rw [e, List.append_nil]; exact hx), fun _ _ p hp => k _ p (same_new hp) upd_same⟩
theorem cut_to {h : List Int} {i : Nat} (hi : i ≤ h.length) : cutV (h.map V.int) none (some (i : Int)) = (h.take i).map V.int := by
  unfold cutV
  rw [HT.sIx_none, HT.sIx_nat, List.length_map, Nat.min_eq_left hi, List.drop_zero, Nat.sub_zero, List.map_take]
theorem cut_from {h : List Int} {i : Nat} (hi : i ≤ h.length) : cutV (h.map V.int) (some (i : Int)) none = (h.drop i).map V.int := by
  unfold cutV
  rw [HT.sIx_none, HT.sIx_nat, List.length_map, Nat.min_eq_left hi, List.map_drop, List.take_of_length_le]
  rw [List.length_drop, List.length_map]
  exact Nat.le_refl _
theorem bump_parts {h : List Int} {i : Nat} {x : Int} (hi : i < h.length) : h.set i x = h.take i ++ [x] ++ h.drop (i + 1) := by
  rw [List.set_eq_take_append_cons_drop, if_pos hi]
  simp
end
section
variable {P : Program} {w : World} {K : PySem.W.Frag} {mg : Str → Option Value} {base : Heap}
theorem sc_does_fail : FnScope ["web", "place", "m", "heap", "fewer", "step"] ["web", "place", "m", "heap", "fewer"] (defScope s_does_fail) := ⟨rfl, rfl, rfl, by decide +kernel, rfl, by decide +kernel, by decide +kernel⟩
def spDoes : Sp := fun vs H Q _ => ∃ (wa ha fa : Addr) (n : Nat) (T : Web) (p : Nat) (m : Int) (h : List Int) (fw : List (List Int)), vs = [.ref wa, .int (p : Int), .int m, .ref ha, .ref fa] ∧ WebAt H wa n T ∧ Ok n T ∧ p < n ∧ HAt H ha h ∧ h.length = n ∧ Rd H fa (.dT (dKeys fw)) ∧
  ∀ (H' : Hp) (b : Bool), Same H H' → (b = true ↔ Okf T p m fw h) → Q (.bl b) H'
theorem c_does_fail (cM : Cal P w K mg base 2 "may_step" spMay []) (cD : Cal P w K mg base 1 "done" spDone []) (D : DefAt K mg "does_fail" s_does_fail) : Cal P w K mg base 3 "does_fail" spDoes [] := by
  refine cal_of D sc_does_fail (fun _ _ _ _ _ _ us hl => match us, hl with | [_, _, _, _, _], _ => rfl) (fun vs H Q E h => ?_) (fun f cdv A outer s H vs Q E hr h => ?_)
  · obtain ⟨wa, ha, fa, n, T, p, m, h, fw, rfl, _⟩ := h; rfl
  obtain ⟨wa, ha, fa, n, T, p, m, h, fw, rfl, hW, ok, hp, hh, hn, hf, q⟩ := h
  have nd := sc_does_fail.nd
  have hu := hu_of hr
  refine ⟨_, pss_cons (ps_if (pt_cmpR op_ge (pe_ix ix_tup (pv 3) (pv 1) (fun _ _ => rfl)) (pv 2) (nomark _)) (pss_one (ps_ret pe_bl)) pss_nil)
    (pss_cons (ps_for PassesOwn.never rfl (pi_list (pe_c cM hr (by decide) (by rfl) (pa_cons (pv 0) (pa_cons (pv 3) pa_nil)))) (pg_name (i := 5) nd rfl (.inl rfl))
      (pss_one (ps_if (pt_cmp (pc_dnotin hu (pe_c cD hr (by decide) (by rfl) (pa_cons (pv 3) (pa_cons (pv 5) pa_nil))) (pv 4))) (pss_one (ps_ret pe_bl)) pss_nil)))
    (pss_one (ps_ret pe_bl))), ?_⟩
  refine ⟨_, rfl, _, rfl, ha, _, (p : Int), _, rfl, rfl, SqT.of hh, g_at (by omega), _, rfl, _, _, rfl, rfl, _, rfl, ite2 (fun c => ?_) (fun c => ?_)⟩
  · have c' : m ≤ g h p := of_decide_eq_true c
    exact q H false (Same.refl _) ⟨fun z => (by cases z), fun z => (by have := z.1; omega)⟩
  have c' : g h p < m := by
    have : ¬ m ≤ g h p := fun z => c (decide_eq_true z)
    omega
  refine ⟨_, rfl, _, rfl, wa, ha, n, T, h, rfl, hW, ok, hh, hn, fun H1 l rs L s1 nl hl pr mem len => ?_⟩
  refine ⟨l, rfl, ⟨_, SqL.of hl⟩, for_list (K := K) (a := l) (xs := rs.map V.ref)
    (fun i σ H' => ∃ v : Option V, σ = [some (.ref wa), some (.int (p : Int)), some (.int m), some (.ref ha), some (.ref fa), v] ∧ Same H1 H' ∧ ∀ (j : Nat) (e : Nat × Nat), j < i → L[j]? = some e → doneF h e.1 e.2 ∈ fw)
    ⟨none, rfl, Same.refl _, fun j _ hj => absurd hj (Nat.not_lt_zero _)⟩ (fun i σ H' _ ⟨_, _, s2, _⟩ => s2.seq (SqL.of hl)) ?_ ?_⟩
  · rintro i x σ H' hi ⟨v, rfl, s2, hall⟩
    obtain ⟨r, e, rfl, hr0, he, hre⟩ := pr.at hi
    have hrH : H' r = some (.tup (prV e)) := s2 _ _ hre
    have sH : Same H H' := s1.trans s2
    obtain ⟨ad, h2⟩ := (mem e).mp (List.mem_of_getElem? he)
    obtain ⟨w1, w2, _⟩ := ok.wf.adj ad
    refine ⟨_, rfl, _, rfl, ha, r, h, e, rfl, hh.same sH, hrH, by omega, by omega, fun H2 d s3 nd2 hd => ?_⟩
    refine ⟨_, rfl, fa, _, rfl, dget (same_rd (sH.trans s3) hf) hd, _, rfl, ?_⟩
    rw [dKeys_get]
    refine ite2 (fun c => ?_) (fun c => ?_)
    · have c2 : doneF h e.1 e.2 ∉ fw := fun z => by rw [decide_eq_true z] at c; cases c
      exact q H2 false (sH.trans s3) ⟨fun z => (by cases z), fun z => absurd (z.2 _ _ ad h2) c2⟩
    · have c2 : doneF h e.1 e.2 ∈ fw := by
        by_cases z : doneF h e.1 e.2 ∈ fw
        · exact z
        · rw [decide_eq_false z] at c; exact absurd rfl c
      refine ⟨_, rfl, s2.trans s3, fun j e' hj he' => ?_⟩
      rcases Nat.lt_succ_iff_lt_or_eq.mp hj with hj | hj
      · exact hall j e' hj he'
      · rw [hj, he] at he'
        cases he'
        exact c2
  · rintro σ H' ⟨v, rfl, s2, hall⟩
    refine q H' true (s1.trans s2) ⟨fun _ => ⟨c', fun a b ad h2 => ?_⟩, fun _ => rfl⟩
    obtain ⟨j, hj⟩ := List.mem_iff_getElem?.mp ((mem (a, b)).mpr ⟨ad, h2⟩)
    refine hall j (a, b) ?_ hj
    have := (List.getElem?_eq_some_iff.mp hj).1
    rw [List.length_map, pr.len]
    exact this

theorem sc_more_failing : FnScope ["web", "place", "m", "fewer", "found", "heap", "other", "more"] ["web", "place", "m", "fewer"] (defScope s_more_failing) := ⟨rfl, rfl, rfl, by decide +kernel, rfl, by decide +kernel, by decide +kernel⟩
/-- what is in the level behind fw -/
def Nxt (n : Nat) (T : Web) (p : Nat) (m : Int) (fw : List (List Int)) (x : List Int) : Prop := (∃ h ∈ fw, ∃ i, i < n ∧ x = bump h i) ∧ Okf T p m fw x
def spMore : Sp := fun vs H Q _ => ∃ (wa fa : Addr) (n : Nat) (T : Web) (p : Nat) (m : Int) (fw : List (List Int)), vs = [.ref wa, .int (p : Int), .int m, .ref fa] ∧ WebAt H wa n T ∧ Ok n T ∧ p < n ∧ H fa = some (.dT (dKeys fw)) ∧ (∀ x ∈ fw, x.length = n) ∧
  (∀ L : List (List Int), L.Nodup → (∀ x ∈ L, Nxt n T p m fw x) → L.length < sizeLine) ∧
  ∀ (H' : Hp) (d : Addr) (L : List (List Int)), Same H H' → H d = none → H' d = some (.dT (dKeys L)) → L.Nodup → (∀ x, x ∈ L ↔ Nxt n T p m fw x) → Q (.ref d) H'
theorem c_more_failing (B : Bl mg) (cD : Cal P w K mg base 3 "does_fail" spDoes []) (D : DefAt K mg "more_failing" s_more_failing) : Cal P w K mg base 4 "more_failing" spMore [] := by
  refine cal_of D sc_more_failing (fun _ _ _ _ _ _ us hl => match us, hl with | [_, _, _, _], _ => rfl) (fun vs H Q E h => ?_) (fun f cdv A outer s H vs Q E hr h => ?_)
  · obtain ⟨wa, fa, n, T, p, m, fw, rfl, _⟩ := h; rfl
  obtain ⟨wa, fa, n, T, p, m, fw, rfl, hW, ok, hp, hf, hlen, hsz, q⟩ := h
  have nd := sc_more_failing.nd
  have hu := hu_of hr
  refine ⟨_, pss_cons (ps_set (i := 4) nd rfl (.inl rfl) pe_dnewT)
    (pss_cons (ps_lock (ps_for PassesOwn.never rfl (pi_keys (pv 3)) (pg_name (i := 5) nd rfl (.inl rfl))
      (pss_one (ps_for PassesOwn.never rfl (pi_range1 (by rfl) B.range (pa_cons (pe_ix ix_tup (pv 0) pe_int (fun _ _ => rfl)) pa_nil)) (pg_name (i := 6) nd rfl (.inl rfl))
        (pss_cons (ps_set (i := 7) nd rfl (.inl rfl) (pe_op op_catA (pe_op op_catA (pe_slice sl_tupA (pv 5) po_none (po_some (pv 6))) (pe_tup (pa_cons (pe_op op_add (pe_ix ix_tup (pv 5) (pv 6) (fun _ _ => rfl)) pe_int) pa_nil)))
            (pe_slice sl_tupA (pv 5) (po_some (pe_op op_add (pv 6) pe_int)) po_none)))
          (pss_one (ps_if (PW.pt (pw_and (pt_cmp (pc_dnotin hu (pv 7) (pv 4))) (pw_and1 (pt_val (pe_c cD hr (by decide) (by rfl) (pa_cons (pv 0) (pa_cons (pv 1) (pa_cons (pv 2) (pa_cons (pv 7) (pa_cons (pv 3) pa_nil))))))))))
            (pss_one (ps_dput hu (pv 4) (pv 7) pe_bl rfl)) pss_nil)))))))
    (pss_one (ps_ret (pv 4)))), ?_⟩
  intro d hd
  have sd : Same H (upd H d (.dT [])) := same_new hd
  have hfd : fa ≠ d := ne_of_none hf hd
  refine ⟨fa, .dT (dKeys fw), sd _ _ hf, trivial, fun od => ?_⟩
  -- the heap at the loop's start
  generalize hH1 : upd (upd H d (.dT [])) fa (.frz od (.dT (dKeys fw))) = H1
  have h1f : H1 fa = some (.frz od (.dT (dKeys fw))) := by rw [← hH1, upd_same]
  have h1d : H1 d = some (.dT []) := by rw [← hH1, upd_ne hfd.symm, upd_same]
  have h1o : ∀ b o, H b = some o → b ≠ fa → H1 b = some o := fun b o e ne => by
    rw [← hH1, upd_ne ne]; exact sd _ _ e
  have hW1 : WebAt H1 wa n T := by
    obtain ⟨t, rs, w1, w2, w3⟩ := hW
    refine ⟨t, rs, h1o _ _ w1 (ne_of w1 hf (by intro z; cases z)), h1o _ _ w2 (ne_of w2 hf (by intro z; cases z)), Paired.mapP w3 fun r e hre => h1o _ _ hre (ne_of hre hf (by intro z; cases z))⟩
  -- what holds of all heaps within: the old ones but d stand
  let Kp : Hp → Prop := fun H' => ∀ b o, H1 b = some o → b ≠ d → H' b = some o
  have web : ∀ {H'}, Kp H' → WebAt H' wa n T := fun {H'} k => by
    obtain ⟨t, rs, w1, w2, w3⟩ := hW1
    exact ⟨t, rs, k _ _ w1 (ne_of w1 h1d (by intro z; cases z)), k _ _ w2 (ne_of w2 h1d (by intro z; cases z)), Paired.mapP w3 fun r e hre => k _ _ hre (ne_of hre h1d (by intro z; cases z))⟩
  refine ⟨_, rfl, fa, od, rfl, .inr ⟨dKeys fw, h1f, for_it walk_keysT
    (fun i σ H' => ∃ (v5 v6 v7 : Option V) (L : List (List Int)), σ = [some (.ref wa), some (.int (p : Int)), some (.int m), some (.ref fa), some (.ref d), v5, v6, v7] ∧ Kp H' ∧ H' d = some (.dT (dKeys L)) ∧ L.Nodup ∧ ∀ x, x ∈ L ↔ (∃ h ∈ fw.take i, ∃ k, k < n ∧ x = bump h k) ∧ Okf T p m fw x)
    ⟨none, none, none, [], rfl, fun b o e _ => e, h1d, List.nodup_nil, fun x => by simp⟩ (fun i σ H' _ ⟨_, _, _, _, _, k, _⟩ => k _ _ h1f hfd) ?_ ?_⟩⟩
  · rintro i x σ H' H'' hi ⟨v5, v6, v7, L, rfl, k, hL, ndL, mem⟩ ⟨rfl, kk, vv, ha, hkv, rfl, hha⟩
    rw [dKeys_len] at hi
    have hkk : kk = iK fw[i] := by
      have e1 : (dKeys fw)[i]? = some (iK fw[i], V.bl true) := by
        unfold dKeys
        rw [List.getElem?_map, List.getElem?_eq_getElem hi]; rfl
      rw [e1] at hkv
      exact (congrArg Prod.fst (Option.some.inj hkv)).symm
    generalize hh0 : fw[i] = h at hkk
    have hhm : h ∈ fw := by rw [← hh0]; exact List.getElem_mem hi
    have hn : h.length = n := hlen h hhm
    have hHA : HAt H'' ha h := by
      unfold HAt
      rw [hha, hkk, iK_V]
    obtain ⟨t0, rs0, w1, _⟩ := id (web k)
    have n4 := ok.n4
    refine ⟨_, rfl, wa, _, 0, _, rfl, rfl, SqT.of w1, rfl, (n : Int), rfl, by omega, by omega, for_range (lo := 0) (n := n)
      (fun k' σ H' => ∃ (v6 v7 : Option V) (L : List (List Int)), σ = [some (.ref wa), some (.int (p : Int)), some (.int m), some (.ref fa), some (.ref d), some (.ref ha), v6, v7] ∧ Kp H' ∧ HAt H' ha h ∧ H' d = some (.dT (dKeys L)) ∧ L.Nodup ∧
        ∀ x, x ∈ L ↔ ((∃ h ∈ fw.take i, ∃ k, k < n ∧ x = bump h k) ∨ ∃ k, k < k' ∧ x = bump h k) ∧ Okf T p m fw x)
      ⟨v6, v7, L, rfl, k, hHA, hL, ndL, fun x => by
        rw [mem x]
        exact ⟨fun z => ⟨.inl z.1, z.2⟩, fun z => ⟨z.1.resolve_right fun ⟨_, z, _⟩ => absurd z (Nat.not_lt_zero _), z.2⟩⟩⟩ ?_ ?_⟩
    · clear k hHA hL ndL mem L w1 v5 v6 v7
      rintro j σ H' hj ⟨v6, v7, L, rfl, kp, hHA, hL, ndL, mem⟩
      rw [Int.zero_add]
      have hjl : j < h.length := by omega
      have hsm : h.length ≤ 4 := by omega
      refine ⟨_, rfl, _, rfl, (j : Int), rfl, sl_any hHA fun H2 t1 s2 e2 => ?_⟩
      rw [cut_to (by omega)] at e2
      refine ⟨_, rfl, _, rfl, ha, _, (j : Int), _, rfl, rfl, SqT.of (s2 _ _ hHA), g_at hjl, _, _, rfl, rfl, (by show 1 ≤ sizeLine; decide), fun t2 ht2 => ?_⟩
      have s3 : Same H2 (upd H2 t2 (.tup [.int (g h j + 1)])) := same_new ht2
      refine cat_any (s3 _ _ e2) upd_same (by rw [List.length_map, List.length_take]; exact le1000 (by show min j h.length + 1 ≤ 1000; omega)) fun H4 t3 s4 e4 => ?_
      have s24 : Same H' H4 := s2.trans (s3.trans s4)
      refine ⟨_, rfl, _, rfl, _, _, rfl, rfl, ((j + 1 : Nat) : Int), rfl, ?_⟩
      dsimp only [tNoPart]
      refine sl_any (s24 _ _ hHA) fun H5 t4 s5 e5 => ?_
      rw [cut_from (by omega)] at e5
      refine cat_any (s5 _ _ e4) e5 (by rw [List.length_append, List.length_map, List.length_map, List.length_take, List.length_drop]; exact le1000 (by show min j h.length + 1 + (h.length - (j + 1)) ≤ 1000; omega)) fun H6 x0 s6 e6 => ?_
      have s26 : Same H' H6 := s24.trans (s5.trans s6)
      have hq : HAt H6 x0 (bump h j) := by
        unfold HAt
        rw [e6]
        unfold bump
        rw [bump_parts hjl, List.map_append, List.map_append]
        rfl
      have k6 : Kp H6 := fun b o e ne => s26 _ _ (kp b o e ne)
      have hL6 : H6 d = some (.dT (dKeys L)) := s26 _ _ hL
      refine ⟨_, rfl, _, rfl, d, _, rfl, dget (.inl hL6) hq, _, rfl, ?_⟩
      rw [dKeys_get]
      by_cases c : bump h j ∈ L
      · rw [decide_eq_true c]
        refine iteF (iteF ?_)
        refine ⟨_, _, L, rfl, k6, s26 _ _ hHA, hL6, ndL, fun x => ?_⟩
        rw [mem x]
        refine ⟨fun z => ⟨z.1.imp_right fun ⟨k', h1, h2⟩ => ⟨k', by omega, h2⟩, z.2⟩, fun z => ⟨?_, z.2⟩⟩
        rcases z.1 with z1 | ⟨k', h1, h2⟩
        · exact .inl z1
        · by_cases e : k' = j
          · rw [h2, e]; exact ((mem _).mp c).1
          · exact .inr ⟨k', by omega, h2⟩
      · rw [decide_eq_false c]
        refine iteT ?_
        refine ⟨_, rfl, _, rfl, _, rfl, _, rfl, _, rfl, wa, x0, fa, n, T, p, m, bump h j, fw, rfl, web k6, ok, hp, hq, by rw [bump_len, hn], .inr ⟨od, k6 _ _ h1f hfd⟩, fun H7 b s7 hb => ?_⟩
        have k7 : Kp H7 := fun b o e ne => s7 _ _ (k6 b o e ne)
        have hL7 : H7 d = some (.dT (dKeys L)) := s7 _ _ hL6
        have hq7 : HAt H7 x0 (bump h j) := hq.same s7
        refine ⟨b, rfl, ite2 (fun cb => ?_) (fun cb => ?_)⟩
        · have okf := hb.mp cb
          have hsl : L.length < sizeLine := hsz L ndL fun x hx => by
            have z := (mem x).mp hx
            refine ⟨?_, z.2⟩
            rcases z.1 with ⟨h', h1, k', h2, h3⟩ | ⟨k', h1, h2⟩
            · exact ⟨h', List.mem_of_mem_take h1, k', h2, h3⟩
            · exact ⟨h, hhm, k', by omega, h2⟩
          refine ⟨_, rfl, _, rfl, d, _, rfl, DPut.t hL7 hq7.key (by rw [dKeys_len]; exact hsl), ?_⟩
          rw [dKeys_put c]
          refine ⟨_, _, L ++ [bump h j], rfl, fun b o e ne => by rw [upd_ne ne]; exact k7 b o e ne, ?_, upd_same, nd_snoc ndL c, fun x => ?_⟩
          · have hha7 : H7 ha = some (.tup (h.map V.int)) := s7 _ _ (s26 _ _ hHA)
            have hne : ha ≠ d := ne_of hha7 hL7 (by intro z; cases z)
            unfold HAt
            rw [upd_ne hne]
            exact hha7
          · rw [List.mem_append, mem x, List.mem_singleton]
            constructor
            · rintro (z | z)
              · exact ⟨z.1.imp_right fun ⟨k', h1, h2⟩ => ⟨k', by omega, h2⟩, z.2⟩
              · rw [z]
                exact ⟨.inr ⟨j, Nat.lt_succ_self j, rfl⟩, okf⟩
            · rintro ⟨z1 | ⟨k', h1, h2⟩, z2⟩
              · exact .inl ⟨.inl z1, z2⟩
              · by_cases e : k' = j
                · exact .inr (by rw [h2, e])
                · exact .inl ⟨.inr ⟨k', by omega, h2⟩, z2⟩
        · have nokf : ¬ Okf T p m fw (bump h j) := fun z => cb (hb.mpr z)
          refine ⟨_, _, L, rfl, k7, s7 _ _ (s26 _ _ hHA), hL7, ndL, fun x => ?_⟩
          rw [mem x]
          refine ⟨fun z => ⟨z.1.imp_right fun ⟨k', h1, h2⟩ => ⟨k', by omega, h2⟩, z.2⟩, fun z => ⟨?_, z.2⟩⟩
          rcases z.1 with z1 | ⟨k', h1, h2⟩
          · exact .inl z1
          · by_cases e : k' = j
            · exact absurd z.2 (by rw [h2, e]; exact nokf)
            · exact .inr ⟨k', by omega, h2⟩
    · clear k hHA hL ndL mem L w1 v5 v6 v7
      rintro σ H' ⟨v6, v7, L, rfl, kp, hHA, hL, ndL, mem⟩
      refine ⟨_, _, _, L, rfl, kp, hL, ndL, fun x => ?_⟩
      rw [mem x, take_succ' (List.getElem?_eq_getElem hi), hh0]
      refine and_congr_left fun _ => ⟨fun z => ?_, fun ⟨h', hm', k', h1, h2⟩ => ?_⟩
      · rcases z with ⟨h', h1, h2⟩ | ⟨k', h1, h2⟩
        · exact ⟨h', List.mem_append_left _ h1, h2⟩
        · exact ⟨h, List.mem_append_right _ (List.mem_singleton.mpr rfl), k', h1, h2⟩
      · rcases List.mem_append.mp hm' with z | z
        · exact .inl ⟨h', z, k', h1, h2⟩
        · rw [List.mem_singleton.mp z] at h2
          exact .inr ⟨k', h1, h2⟩
  · rintro σ H' ⟨v5, v6, v7, L, rfl, k, hL, ndL, mem⟩
    rw [dKeys_len, List.take_of_length_le (Nat.le_refl _)] at mem
    refine ⟨k _ _ h1f hfd, _, rfl, q _ d L (fun b o e => ?_) hd ?_ ndL mem⟩
    · by_cases hb : b = fa
      · rw [hb] at e ⊢
        rw [upd_same, ← hf, e]
      · rw [upd_ne hb]
        exact k _ _ (h1o _ _ e hb) (ne_of_none e hd)
    · rw [upd_ne hfd.symm]; exact hL
end
end K64

set_option Elab.async false
set_option linter.all false
set_option maxRecDepth 100000
set_option maxHeartbeats 4000000
/-! the levels, as a list of dicts -/
namespace K64
open PySem PySem.Spec PyProof.Rows L2
open C8 (Cal pe_c)
/-- a dict that holds level j -/
def DLev (n : Nat) (T : Web) (p : Nat) (m : Int) (H : Hp) (d : Addr) (j : Nat) : Prop := ∃ L : List (List Int), H d = some (.dT (dKeys L)) ∧ L.Nodup ∧ IsLev n T p m j L
theorem DLev.same {n : Nat} {T : Web} {p : Nat} {m : Int} {H H' : Hp} {d : Addr} {j : Nat} (s : Same H H') (h : DLev n T p m H d j) : DLev n T p m H' d j := by
  obtain ⟨L, h1, h2, h3⟩ := h
  exact ⟨L, s _ _ h1, h2, h3⟩
theorem flat_zero : ∀ n : Nat, (List.replicate n [V.int 0]).flatten = (List.replicate n (0 : Int)).map V.int
  | 0 => rfl
  | n + 1 => by
    rw [List.replicate_succ, List.flatten_cons, flat_zero n, List.replicate_succ, List.map_cons]
    rfl
section
variable {P : Program} {w : World} {K : PySem.W.Frag} {mg : Str → Option Value} {base : Heap}
theorem sc_failing : FnScope ["web", "place", "m", "found", "here"] ["web", "place", "m"] (defScope s_failing) := ⟨rfl, rfl, rfl, by decide +kernel, rfl, by decide +kernel, by decide +kernel⟩
def spFailing : Sp := fun vs H Q _ => ∃ (wa : Addr) (n : Nat) (T : Web) (p : Nat) (m : Int), vs = [.ref wa, .int (p : Int), .int m] ∧ WebAt H wa n T ∧ GW n T ∧ p < n ∧ 1 ≤ m ∧ m ≤ 2 ∧
  ∀ (H' : Hp) (fo : Addr) (ds : List Addr) (N : Nat), Same H H' → H fo = none → H' fo = some (.lst (ds.map V.ref)) → ds.length = N → IsNeed n T p m N → (∀ (i : Nat) (d : Addr), ds[i]? = some d → DLev n T p m H' d i) → Q (.ref fo) H'
theorem c_failing (B : Bl mg) (cM : Cal P w K mg base 4 "more_failing" spMore []) (D : DefAt K mg "failing" s_failing) : Cal P w K mg base 5 "failing" spFailing [] := by
  refine cal_of D sc_failing (fun _ _ _ _ _ _ us hl => match us, hl with | [_, _, _], _ => rfl) (fun vs H Q E h => ?_) (fun f cdv A outer s H vs Q E hr h => ?_)
  · obtain ⟨wa, n, T, p, m, rfl, _⟩ := h; rfl
  obtain ⟨wa, n, T, p, m, rfl, hW, gw, hp, hm, hm2, q⟩ := h
  have nd := sc_failing.nd
  have hu := hu_of hr
  have ok := gw.ok
  have n2 := ok.n2
  have n4 := ok.n4
  refine ⟨_, pss_cons (ps_set (i := 3) nd rfl (.inl rfl) (pe_lst pa_nil))
    (pss_cons (ps_set (i := 4) nd rfl (.inl rfl) (pe_dispT hu (pe_op op_repT (pe_tup (pa_cons pe_int pa_nil)) (pe_ix ix_tup (pv 0) pe_int (fun _ _ => rfl))) pe_bl))
    (pss_cons (ps_while PassesOwn.never (pt_cmpR op_gt (pe_callB call_len_dT (by rfl) B.len PySem.boot_len (pa_cons (pv 4) pa_nil)) pe_int (nomark _))
      (pss_cons (ps_expr (pe_bm PySem.F.plainAttrs_list PySem.F.slot_list_append PySem.F.type_list_append mt_append (pv 3) (pa_cons (pv 4) pa_nil)))
        (pss_one (ps_set (i := 4) nd rfl (.inl rfl) (pe_c cM hr (by decide) (by rfl) (pa_cons (pv 0) (pa_cons (pv 1) (pa_cons (pv 2) (pa_cons (pv 4) pa_nil)))))))))
    (pss_one (ps_ret (pv 3))))), ?_⟩
  refine ⟨Nat.zero_le _, fun fo hfo => ?_⟩
  have s1 : Same H (upd H fo (.lst [])) := same_new hfo
  intro d0 hd0
  have s2 : Same H (upd (upd H fo (.lst [])) d0 (.dT [])) := s1.newK hd0
  have hfd : fo ≠ d0 := ne_of_none upd_same hd0
  refine ⟨(by show 1 ≤ sizeLine; decide), fun t1 ht1 => ?_⟩
  have s3 : Same (upd (upd H fo (.lst [])) d0 (.dT [])) (upd (upd (upd H fo (.lst [])) d0 (.dT [])) t1 (.tup [.int 0])) := same_new ht1
  obtain ⟨tw, rs, w1, w2, w3⟩ := id hW
  refine ⟨_, rfl, wa, _, 0, _, rfl, rfl, SqT.of (s3 _ _ (s2 _ _ w1)), rfl, t1, (n : Int), [.int 0], rfl, rfl, SqT.of upd_same, (by intro z; cases z), by omega, by omega, (by show 1 ≤ 1000; decide), fun t2 ht2 => ?_⟩
  have e2 : upd (upd (upd (upd H fo (.lst [])) d0 (.dT [])) t1 (.tup [.int 0])) t2 (.tup (List.replicate ((n : Int)).toNat [V.int 0]).flatten) t2 = some (.tup ((iK (List.replicate n (0 : Int))).map kV)) := by
    rw [upd_same, iK_V, Int.toNat_natCast, flat_zero]
  have s4 : Same (upd (upd H fo (.lst [])) d0 (.dT [])) (upd (upd (upd (upd H fo (.lst [])) d0 (.dT [])) t1 (.tup [.int 0])) t2 (.tup (List.replicate ((n : Int)).toNat [V.int 0]).flatten)) := s3.newK ht2
  refine ⟨t2, iK (List.replicate n (0 : Int)), rfl, e2, s4 _ _ upd_same, ?_⟩
  -- the loop
  have sd : Same H (upd (upd (upd (upd (upd H fo (.lst [])) d0 (.dT [])) t1 (.tup [.int 0])) t2 (.tup (List.replicate ((n : Int)).toNat [V.int 0]).flatten)) d0 (.dT [(iK (List.replicate n (0 : Int)), V.bl true)])) :=
    (s2.trans s4).putK (s1.free hd0)
  have hfo' : (upd (upd (upd (upd (upd H fo (.lst [])) d0 (.dT [])) t1 (.tup [.int 0])) t2 (.tup (List.replicate ((n : Int)).toNat [V.int 0]).flatten)) d0 (.dT [(iK (List.replicate n (0 : Int)), V.bl true)])) fo = some (.lst []) := by
    rw [upd_ne hfd]
    refine s4 _ _ ?_
    rw [upd_ne hfd, upd_same]
  refine ⟨fun mm σ H' => ∃ (j : Nat) (ds : List Addr) (hd : Addr), mm = 64 - j ∧ σ = [some (.ref wa), some (.int (p : Int)), some (.int m), some (.ref fo), some (.ref hd)] ∧ Same H H' ∧ H' fo = some (.lst (ds.map V.ref)) ∧ ds.length = j ∧
      (∀ (i : Nat) (d : Addr), ds[i]? = some d → DLev n T p m H' d i) ∧ DLev n T p m H' hd j ∧ (∀ i, i < j → ∃ x, Lev n T p m i x) ∧ j ≤ 64,
    ⟨64, 0, [], d0, rfl, rfl, sd, hfo', rfl, fun i d hi => by simp at hi, ⟨[List.replicate n 0], upd_same, by simp, fun x => ?_⟩, fun i hi => absurd hi (Nat.not_lt_zero _), Nat.zero_le _⟩, ?_⟩
  · rw [List.mem_singleton, lev_zero hm]
  rintro mm σ H' ⟨j, ds, hd, rfl, rfl, sH, hl, hlen, hds, ⟨L, hL, ndL, isl⟩, hne, hj⟩
  refine ⟨_, rfl, hd, _, rfl, hL, _, _, rfl, rfl, _, rfl, ite2 (fun c => ?_) (fun c => ?_)⟩
  · have c' : (0 : Int) < (((dKeys L).length : Nat) : Int) := of_decide_eq_true c
    rw [dKeys_len] at c'
    obtain ⟨x0, hx0⟩ : ∃ x, x ∈ L := by
      cases L with
      | nil => simp at c'
      | cons x r => exact ⟨x, List.mem_cons_self⟩
    have lv0 := (isl x0).mp hx0
    have hj64 : j < 64 := lv0.lt64 gw hp (by omega) hm2
    have hfh : fo ≠ hd := ne_of hl hL (by intro z; cases z)
    refine ⟨fun σ' H' => ∃ (ds : List Addr) (hd : Addr), σ' = [some (.ref wa), some (.int (p : Int)), some (.int m), some (.ref fo), some (.ref hd)] ∧ Same H H' ∧ H' fo = some (.lst (ds.map V.ref)) ∧ ds.length = j + 1 ∧
        (∀ (i : Nat) (d : Addr), ds[i]? = some d → DLev n T p m H' d i) ∧ DLev n T p m H' hd (j + 1) ∧ (∀ i, i < j + 1 → ∃ x, Lev n T p m i x) ∧ j + 1 ≤ 64,
      fun σ' H' ⟨ds, hd, r⟩ => ⟨64 - (j + 1), by omega, j + 1, ds, hd, rfl, r⟩, ?_⟩
    refine ⟨_, rfl, .inl ⟨rfl, _, SqL.of hl⟩, _, rfl, fo, _, _, rfl, rfl, hl, by rw [List.length_map]; exact small1000 (by omega), ?_⟩
    -- behind the append
    generalize hH2 : upd H' fo (.lst (ds.map V.ref ++ [V.ref hd])) = H2
    have sH2 : Same H H2 := by rw [← hH2]; exact sH.putK hfo
    have hl2 : H2 fo = some (.lst ((ds ++ [hd]).map V.ref)) := by rw [← hH2, upd_same, List.map_append]; rfl
    have keep : ∀ (d : Addr) (M : List (List Int)), H' d = some (.dT (dKeys M)) → H2 d = some (.dT (dKeys M)) := fun d M e => by
      rw [← hH2, upd_ne (ne_of e hl (by intro z; cases z))]; exact e
    have hL2 : H2 hd = some (.dT (dKeys L)) := keep _ _ hL
    refine ⟨_, rfl, _, rfl, _, rfl, _, rfl, wa, hd, n, T, p, m, L, rfl, hW.same sH2, ok, hp, hL2, fun x hx => ((isl x).mp hx).len, fun M ndM hM => ?_, fun H3 d L' s5 nd5 hd5 ndL' mem' => ?_⟩
    · refine Nat.lt_of_le_of_lt (IsLev.card gw hp (by omega) hm2 (j := j + 1) ndM fun x hx => ?_) (by decide : 65536 < sizeLine)
      obtain ⟨⟨h0, h1, i, hi, e⟩, okf⟩ := hM x hx
      exact (lev_succ ok.wf).mpr ⟨⟨h0, (isl h0).mp h1, i, hi, e⟩, okf.1, fun a b ad h3 => (isl _).mp (okf.2 a b ad h3)⟩
    · refine ⟨ds ++ [hd], d, rfl, sH2.trans s5, s5 _ _ hl2, by rw [List.length_append, hlen]; rfl, fun i d' hi => ?_, ⟨L', hd5, ndL', isLev_succ ok.wf isl mem'⟩, fun i hi => ?_, by omega⟩
      · by_cases hil : i < ds.length
        · rw [List.getElem?_append_left hil] at hi
          obtain ⟨M, h1, h2, h3⟩ := hds i d' hi
          exact ⟨M, s5 _ _ (keep _ _ h1), h2, h3⟩
        · have hie : i = ds.length := by
            have := (List.getElem?_eq_some_iff.mp hi).1
            rw [List.length_append] at this
            have e1 : ([hd] : List Addr).length = 1 := rfl
            omega
          rw [hie, List.getElem?_append_right (Nat.le_refl _), Nat.sub_self] at hi
          have e : hd = d' := Option.some.inj hi
          rw [← e, hie, hlen]
          exact ⟨L, s5 _ _ hL2, ndL, isl⟩
      · by_cases e : i = j
        · rw [e]; exact ⟨x0, lv0⟩
        · exact hne i (by omega)
  · have c' : L = [] := by
      cases L with
      | nil => rfl
      | cons x r =>
        refine absurd (decide_eq_true ?_) c
        show (0 : Int) < (((dKeys (x :: r)).length : Nat) : Int)
        rw [dKeys_len, List.length_cons]
        omega
    subst c'
    refine ⟨.ref fo, rfl, q H' fo ds j sH hfo hl hlen ⟨hne, fun x hx => ?_⟩ hds⟩
    have := (isl x).mpr hx
    simp at this
end
end K64

set_option Elab.async false
set_option linter.all false
set_option maxRecDepth 100000
set_option maxHeartbeats 4000000
/-! distances, pieces -/
namespace K64
open PySem PySem.Spec PyProof.Rows L2
open C8 (Cal pe_c)
abbrev nV (l : List Nat) : List V := l.map fun i : Nat => V.int (i : Int)
theorem nV_map (l : List Nat) : (l.map fun i : Nat => (i : Int)).map V.int = nV l := by rw [List.map_map]; rfl
theorem nV_snoc (l : List Nat) (x : Nat) : nV (l ++ [x]) = nV l ++ [V.int (x : Int)] := by
  unfold nV
  rw [List.map_append]; rfl
/-- the ints that near collects, before they are sorted -/
def nearP (T : Web) (p : Nat) : List Nat := (T.filter fun e => e.1 == p || e.2 == p).map fun e => e.1 + e.2 - p
theorem inV_two (p a b : Nat) : inV (.int (p : Int)) [.int (a : Int), .int (b : Int)] = (a == p || b == p) := by
  show (((a : Int) == (p : Int)) || (((b : Int) == (p : Int)) || false)) = (a == p || b == p)
  rw [Bool.or_false]
  have e : ∀ x : Nat, ((x : Int) == (p : Int)) = (x == p) := fun x => by
    by_cases h : x = p
    · rw [h, beq_self_eq_true, beq_self_eq_true]
    · rw [beq_eq_false_iff_ne.mpr h]
      exact beq_eq_false_iff_ne.mpr (fun z => h (by omega))
  rw [e, e]
section
variable {P : Program} {w : World} {K : PySem.W.Frag} {mg : Str → Option Value} {base : Heap}
theorem sc_near : FnScope ["web", "place", "a", "b"] ["web", "place"] (defScope s_near) := ⟨rfl, rfl, rfl, by decide +kernel, rfl, by decide +kernel, by decide +kernel⟩
def spNear : Sp := fun vs H Q _ => ∃ (wa : Addr) (n : Nat) (T : Web) (p : Nat), vs = [.ref wa, .int (p : Int)] ∧ WebAt H wa n T ∧ T.length ≤ 6 ∧
  ∀ (H' : Hp) (l : Addr), Same H H' → H l = none → H' l = some (.lst (nV (nearF T p))) → Q (.ref l) H'
theorem c_near (B : Bl mg) (D : DefAt K mg "near" s_near) : Cal P w K mg base 1 "near" spNear [] := by
  refine cal_of D sc_near (fun _ _ _ _ _ _ us hl => match us, hl with | [_, _], _ => rfl) (fun vs H Q E h => ?_) (fun f cdv A outer s H vs Q E hr h => ?_)
  · obtain ⟨wa, n, T, p, rfl, _⟩ := h; rfl
  obtain ⟨wa, n, T, p, rfl, ⟨t, rs, h1, h2, h3⟩, h6, q⟩ := h
  have nd := sc_near.nd
  refine ⟨_, pss_one (ps_ret (pe_callB cr_sortedI (by rfl) B.sorted (by decide +kernel) (pa_cons
    (pe_lc (own := [("a", 2), ("b", 3)]) (g := gPair K 2 3) (by rfl) nd (pi_tup (pe_ix ix_tup (pv 0) pe_int (fun _ _ => rfl))) (blkOk_by (N := ["web", "place", "a", "b"]) (sc := defScope s_near) (by decide +kernel))
      (fun _ _ _ _ _ => pg_tup rfl (pgs_cons (pg_name (i := 2) nd rfl (Or.inl rfl)) (pgs_cons (pg_name (i := 3) nd rfl (Or.inl rfl)) pgs_nil)))
      (fun _ _ _ _ _ => pts_one (pt_cmpR (r := rIn K false) op_in_seq (pv 1) (pe_tup (pa_cons (pv 2) (pa_cons (pv 3) pa_nil))) (by rfl)))
      (fun _ _ _ _ _ => pe_op op_sub (pe_op op_add (pv 2) (pv 3)) (pv 1))) pa_nil))), ?_⟩
  have hA : SqT K H wa [.int (n : Int), .ref t] := SqT.of h1
  have hT : SqT K H t (rs.map V.ref) := SqT.of h2
  refine ⟨_, rfl, wa, _, 1, _, rfl, rfl, hA, rfl, t, rfl, ⟨_, hT⟩, fun Dl hD => ?_⟩
  refine lc_tup (K := K) (a := t) (xs := rs.map V.ref) (fun i H' => Same H H' ∧ H' Dl = some (.lst (nV (nearP (T.take i) p)))) ⟨same_new hD, upd_same⟩ (fun i H' _ ⟨s2, _⟩ => s2.sqT hT) ?_ ?_
  · rintro i x H' hi ⟨s2, hq⟩
    obtain ⟨r, e, rfl, hr0, he, hre⟩ := h3.at hi
    have hrH : H' r = some (.tup (prV e)) := s2 _ _ hre
    have hlt := (List.getElem?_eq_some_iff.mp he).1
    refine ⟨r, prV e, rfl, SqT.of hrH, rfl, _, _, rfl, _, _, rfl, rfl, rfl, ?_⟩
    refine ⟨_, rfl, _, rfl, _, rfl, (by show 2 ≤ sizeLine; decide), fun t2 ht2 => ?_⟩
    have s3 : Same H' (upd H' t2 (.tup [.int (e.1 : Int), .int (e.2 : Int)])) := same_new ht2
    refine ⟨t2, _, rfl, .inr (SqT.of upd_same), rfl, rfl, _, rfl, ?_⟩
    have eb : (if false = true then !inV (.int (p : Int)) [.int (e.1 : Int), .int (e.2 : Int)] else inV (.int (p : Int)) [.int (e.1 : Int), .int (e.2 : Int)]) = (e.1 == p || e.2 == p) := by
      rw [if_neg Bool.false_ne_true, inV_two]
    rw [eb]
    have tk : nearP (T.take (i + 1)) p = nearP (T.take i) p ++ nearP [e] p := by
      unfold nearP
      rw [take_succ' he, List.filter_append, List.map_append]
    have ln : (nearP (T.take i) p).length ≤ 6 := by
      unfold nearP
      rw [List.length_map]
      exact Nat.le_trans (List.length_filter_le _ _) (by rw [List.length_take]; omega)
    refine ite2 (fun c => ?_) (fun c => ?_)
    · refine ⟨_, rfl, _, rfl, _, _, rfl, rfl, _, rfl, _, _, rfl, rfl, nV (nearP (T.take i) p), s3 _ _ hq, by rw [List.length_map]; exact small1000 (by omega), (s2.trans s3).putK hD, ?_⟩
      have e1 : nearP [e] p = [e.1 + e.2 - p] := by
        unfold nearP
        rw [List.filter_cons, if_pos c]; rfl
      have e2 : (((e.1 + e.2 - p : Nat)) : Int) = (e.1 : Int) + (e.2 : Int) - (p : Int) := by
        rw [Bool.or_eq_true, beq_iff_eq, beq_iff_eq] at c
        omega
      rw [upd_same, tk, e1, nV_snoc, e2]
    · have e1 : nearP [e] p = [] := by
        unfold nearP
        rw [List.filter_cons, if_neg c]; rfl
      rw [tk, e1, List.append_nil]
      exact ⟨s2.trans s3, s3 _ _ hq⟩
  · rintro H' ⟨s2, hq⟩
    rw [List.length_map, h3.len, List.take_of_length_le (Nat.le_refl _)] at hq
    refine ⟨Dl, (nearP T p).map fun i : Nat => (i : Int), rfl, SqL.of (by rw [nV_map]; exact hq), fun ns' l perm srt hl => ?_⟩
    have e : ns' = (isort (nearP T p)).map fun i : Nat => (i : Int) := sorted_is perm srt
    refine q _ l (s2.newK hl) (s2.free hl) ?_
    rw [upd_same, e, nV_map]
    rfl

/-! ### the search in breadth -/
def kvF (f : List (Nat × Nat)) : List (L2.Key × V) := f.map fun e => (Sum.inl (e.1 : Int), V.int (e.2 : Int))
abbrev rowV (f : List (Nat × Nat)) : List V := nV (f.map (·.1))
theorem kvF_get (f : List (Nat × Nat)) (x : Nat) : valV (kvF f) (Sum.inl (x : Int)) = if x ∈ f.map (·.1) then some (V.int (look f x : Int)) else none := by
  induction f with
  | nil => rfl
  | cons e r ih =>
    show valV ((Sum.inl (e.1 : Int), V.int (e.2 : Int)) :: kvF r) (Sum.inl (x : Int)) = _
    by_cases h : e.1 = x
    · rw [valV_pos (by rw [h]), if_pos (by rw [List.map_cons, h]; exact List.mem_cons_self)]
      have : look (e :: r) x = e.2 := by
        unfold look
        rw [List.find?_cons, h, beq_self_eq_true]; rfl
      rw [this]
    · rw [valV_neg (fun z => h (Int.ofNat.inj (Sum.inl.inj z))), ih]
      have e1 : look (e :: r) x = look r x := by
        unfold look
        rw [List.find?_cons, beq_eq_false_iff_ne.mpr h]
      rw [e1]
      by_cases c : x ∈ r.map (·.1)
      · rw [if_pos c, if_pos (by rw [List.map_cons]; exact List.mem_cons_of_mem _ c)]
      · rw [if_neg c, if_neg (by
          rw [List.map_cons]
          intro z
          rcases List.mem_cons.mp z with z | z
          · exact h z.symm
          · exact c z)]
theorem kvF_put {f : List (Nat × Nat)} {x d : Nat} (h : x ∉ f.map (·.1)) : putK (kvF f) (Sum.inl (x : Int)) (V.int (d : Int)) = kvF (f ++ [(x, d)]) := by
  rw [putK_new _ (by rw [kvF_get, if_neg h])]
  unfold kvF
  rw [List.map_append]
  rfl
theorem kvF_len (f : List (Nat × Nat)) : (kvF f).length = f.length := List.length_map _
theorem visit_len (x : Nat) (f : List (Nat × Nat)) (o : Nat) : (visit x f o).length ≤ f.length + 1 := by
  unfold visit
  split
  · omega
  · rw [List.length_append]; exact Nat.le_refl _
theorem visit_mem {x y : Nat} {f : List (Nat × Nat)} {o : Nat} (h : y ∈ f.map (·.1)) : y ∈ (visit x f o).map (·.1) := by
  unfold visit
  split
  · exact h
  · rw [List.map_append]; exact List.mem_append_left _ h
theorem visits_mem {x y : Nat} : ∀ (os : List Nat) {f : List (Nat × Nat)}, y ∈ f.map (·.1) → y ∈ (os.foldl (visit x) f).map (·.1)
  | [], _, h => h
  | o :: os, f, h => visits_mem os (visit_mem h)
theorem visits_len {x : Nat} : ∀ (os : List Nat) {f : List (Nat × Nat)}, (os.foldl (visit x) f).length ≤ f.length + os.length
  | [], _ => Nat.le_refl _
  | o :: os, f => by
    have h1 := visits_len (x := x) os (f := visit x f o)
    have h2 := visit_len x f o
    rw [List.length_cons]
    show (os.foldl (visit x) (visit x f o)).length ≤ _
    omega
/-- the rows begin with what they held -/
theorem visit_get {x : Nat} {f : List (Nat × Nat)} {o i : Nat} (h : i < f.length) : (visit x f o)[i]? = f[i]? := by
  unfold visit
  split
  · rfl
  · rw [List.getElem?_append_left h]
theorem visit_grow (x : Nat) (f : List (Nat × Nat)) (o : Nat) : f.length ≤ (visit x f o).length := by
  unfold visit
  split
  · exact Nat.le_refl _
  · rw [List.length_append]; omega
theorem visits_get {x i : Nat} : ∀ (os : List Nat) {f : List (Nat × Nat)}, i < f.length → (os.foldl (visit x) f)[i]? = f[i]?
  | [], _, _ => rfl
  | o :: os, f, h => by
    show (os.foldl (visit x) (visit x f o))[i]? = _
    rw [visits_get os (Nat.lt_of_lt_of_le h (visit_grow x f o)), visit_get h]
theorem visits_grow {x : Nat} : ∀ (os : List Nat) {f : List (Nat × Nat)}, f.length ≤ (os.foldl (visit x) f).length
  | [], _ => Nat.le_refl _
  | o :: os, f => Nat.le_trans (visit_grow x f o) (visits_grow os)
theorem rowAt_of {f : List (Nat × Nat)} {k : Nat} (h : k < f.length) : atI (rowV f) (k : Int) = some (.int (rowAt f k : Int)) ∧ rowAt f k ∈ f.map (·.1) := by
  have e : (f.map (·.1))[k]? = some (rowAt f k) := by
    unfold rowAt
    rw [List.getD_eq_getElem?_getD, List.getElem?_eq_getElem (by rw [List.length_map]; exact h)]
    rfl
  refine ⟨atI_nat ?_, List.mem_of_getElem? e⟩
  rw [List.getElem?_map, e]
  rfl
theorem rowAt_visits {f : List (Nat × Nat)} {k x : Nat} {os : List Nat} (h : k < f.length) : rowAt (os.foldl (visit x) f) k = rowAt f k := by
  unfold rowAt
  rw [List.getD_eq_getElem?_getD, List.getD_eq_getElem?_getD, List.getElem?_map, List.getElem?_map, visits_get os h]
theorem sc_fars : FnScope ["web", "place", "found", "row", "at", "other"] ["web", "place"] (defScope s_fars) := ⟨rfl, rfl, rfl, by decide +kernel, rfl, by decide +kernel, by decide +kernel⟩
def spFars : Sp := fun vs H Q _ => ∃ (wa : Addr) (n : Nat) (T : Web) (p : Nat), vs = [.ref wa, .int (p : Int)] ∧ WebAt H wa n T ∧ Ok n T ∧ OkP n T p ∧
  ∀ (H' : Hp) (d : Addr), Same H H' → H d = none → H' d = some (.dK (kvF (bfs T p n))) → Q (.ref d) H'
theorem near_len {T : Web} {p : Nat} (h : T.length ≤ 6) : (nearF T p).length ≤ 6 := by
  unfold nearF
  rw [(isort_perm _).length_eq, List.length_map]
  exact Nat.le_trans (List.length_filter_le _ _) h
theorem bfs_len {T : Web} {p : Nat} (h : T.length ≤ 6) : ∀ k, (bfs T p k).length ≤ 1 + 6 * k
  | 0 => Nat.le_refl _
  | k + 1 => by
    have h1 := bfs_len (p := p) h k
    have h2 := visits_len (x := rowAt (bfs T p k) k) (nearF T (rowAt (bfs T p k) k)) (f := bfs T p k)
    have h3 := near_len (p := rowAt (bfs T p k) k) h
    show ((nearF T (rowAt (bfs T p k) k)).foldl (visit (rowAt (bfs T p k) k)) (bfs T p k)).length ≤ _
    omega
theorem c_fars (B : Bl mg) (cN : Cal P w K mg base 1 "near" spNear []) (D : DefAt K mg "fars" s_fars) : Cal P w K mg base 2 "fars" spFars [] := by
  refine cal_of D sc_fars (fun _ _ _ _ _ _ us hl => match us, hl with | [_, _], _ => rfl) (fun vs H Q E h => ?_) (fun f cdv A outer s H vs Q E hr h => ?_)
  · obtain ⟨wa, n, T, p, rfl, _⟩ := h; rfl
  obtain ⟨wa, n, T, p, rfl, hW, ok, okp, q⟩ := h
  have nd := sc_fars.nd
  have hu := hu_of hr
  have n4 := ok.n4
  refine ⟨_, pss_cons (ps_set (i := 2) nd rfl (.inl rfl) (pe_disp (pps_cons (pv 1) pe_int pps_nil) rfl rfl (by intro z; cases z) (by decide)))
    (pss_cons (ps_set (i := 3) nd rfl (.inl rfl) (pe_lst (pa_cons (pv 1) pa_nil)))
    (pss_cons (ps_set (i := 4) nd rfl (.inl rfl) pe_int)
    (pss_cons (ps_while PassesOwn.never (pt_cmpR op_lt (pv 4) (pe_callB call_len_seq (by rfl) B.len PySem.boot_len (pa_cons (pv 3) pa_nil)) (nomark _))
      (pss_cons (ps_for PassesOwn.never rfl (pi_list (pe_c cN hr (by decide) (by rfl) (pa_cons (pv 0) (pa_cons (pe_ix ix_list (pv 3) (pv 4) (fun _ _ => rfl)) pa_nil)))) (pg_name (i := 5) nd rfl (.inl rfl))
          (pss_one (ps_if (pt_cmp (pc_dnotin hu (pv 5) (pv 2)))
            (pss_cons (ps_dput hu (pv 2) (pv 5) (pe_op op_add (pe_dget hu (pv 2) (pe_ix ix_list (pv 3) (pv 4) (fun _ _ => rfl)) (fun _ _ => rfl)) pe_int) rfl)
              (pss_one (ps_expr (pe_bm PySem.F.plainAttrs_list PySem.F.slot_list_append PySem.F.type_list_append mt_append (pv 3) (pa_cons (pv 5) pa_nil))))) pss_nil)))
        (pss_one (ps_aug (i := 4) nd rfl (.inl rfl) pe_int ip_add))))
    (pss_one (ps_ret (pv 2)))))), ?_⟩
  intro fd hfd
  have s1 : Same H (upd H fd (.dK [])) := same_new hfd
  refine ⟨_, rfl, upd_same, [(Sum.inl (p : Int), .int 0)], rfl, (by show 1 ≤ 15; decide), ?_⟩
  rw [upd_upd]
  have e0 : mergeK [] [(Sum.inl (p : Int), V.int 0)] = kvF (bfs T p 0) := rfl
  rw [e0]
  have s2 : Same H (upd H fd (.dK (kvF (bfs T p 0)))) := same_new hfd
  refine ⟨_, rfl, (by show 1 ≤ sizeLine; decide), fun rw' hrw => ?_⟩
  have hne : fd ≠ rw' := ne_of_none upd_same hrw
  have s3 : Same H (upd (upd H fd (.dK (kvF (bfs T p 0)))) rw' (.lst [.int (p : Int)])) := s2.newK hrw
  have hrw0 : H rw' = none := s2.free hrw
  refine ⟨fun mm σ H' => ∃ (k : Nat) (v5 : Option V), k ≤ n ∧ mm = n - k ∧ σ = [some (.ref wa), some (.int (p : Int)), some (.ref fd), some (.ref rw'), some (.int (k : Int)), v5] ∧ Same H H' ∧
      H' fd = some (.dK (kvF (bfs T p k))) ∧ H' rw' = some (.lst (rowV (bfs T p k))),
    ⟨n, 0, none, Nat.zero_le _, rfl, rfl, s3, by rw [upd_ne hne, upd_same], upd_same⟩, ?_⟩
  rintro mm σ H' ⟨k, v5, hk, rfl, rfl, sH, hf, hrow⟩
  refine ⟨_, rfl, _, rfl, rw', _, rfl, .inl (SqL.of hrow), _, _, rfl, rfl, _, rfl, ite2 (fun c => ?_) (fun c => ?_)⟩
  · have c' : (k : Int) < (((rowV (bfs T p k)).length : Nat) : Int) := of_decide_eq_true c
    rw [List.length_map, List.length_map] at c'
    have hkn : k < n := by
      by_cases e : k = n
      · rw [e, okp.stop] at c'; omega
      · omega
    have hkl : k < (bfs T p k).length := okp.go k hkn
    obtain ⟨ra, rm⟩ := rowAt_of hkl
    have hbl := bfs_len (T := T) (p := p) ok.len k
    refine ⟨fun σ' H' => ∃ v5 : Option V, σ' = [some (.ref wa), some (.int (p : Int)), some (.ref fd), some (.ref rw'), some (.int ((k + 1 : Nat) : Int)), v5] ∧ Same H H' ∧ H' fd = some (.dK (kvF (bfs T p (k + 1)))) ∧ H' rw' = some (.lst (rowV (bfs T p (k + 1)))),
      fun σ' H' ⟨v5, e, r⟩ => ⟨n - (k + 1), by omega, k + 1, v5, by omega, rfl, e, r⟩, ?_⟩
    refine ⟨_, rfl, _, rfl, _, rfl, rw', _, (k : Int), _, rfl, rfl, SqL.of hrow, ra, wa, n, T, rowAt (bfs T p k) k, rfl, hW.same sH, ok.len, fun H1 l s4 nl hl => ?_⟩
    have lf : l ≠ fd := (ne_of_none hf nl).symm
    have lr : l ≠ rw' := (ne_of_none hrow nl).symm
    refine ⟨l, rfl, ⟨_, SqL.of hl⟩, for_list (K := K) (a := l) (xs := nV (nearF T (rowAt (bfs T p k) k)))
      (fun i σ H' => ∃ v5 : Option V, σ = [some (.ref wa), some (.int (p : Int)), some (.ref fd), some (.ref rw'), some (.int (k : Int)), v5] ∧ Same H H' ∧ H' l = some (.lst (nV (nearF T (rowAt (bfs T p k) k)))) ∧
        H' fd = some (.dK (kvF (((nearF T (rowAt (bfs T p k) k)).take i).foldl (visit (rowAt (bfs T p k) k)) (bfs T p k)))) ∧ H' rw' = some (.lst (rowV (((nearF T (rowAt (bfs T p k) k)).take i).foldl (visit (rowAt (bfs T p k) k)) (bfs T p k)))))
      ⟨v5, rfl, sH.trans s4, hl, s4 _ _ hf, s4 _ _ hrow⟩ (fun i σ H' _ ⟨_, _, _, hl, _⟩ => SqL.of hl) ?_ ?_⟩
    · rintro i x σ H2 hi ⟨v5, rfl, sH2, hl2, hf2, hr2⟩
      rw [List.getElem?_map] at hi
      obtain ⟨o, ho, rfl⟩ : ∃ o, (nearF T (rowAt (bfs T p k) k))[i]? = some o ∧ x = .int (o : Int) := by
        cases e : (nearF T (rowAt (bfs T p k) k))[i]? with
        | none => rw [e] at hi; cases hi
        | some o => rw [e] at hi; exact ⟨o, rfl, (Option.some.inj hi).symm⟩
      rw [take_succ' ho, List.foldl_append]
      generalize hF : ((nearF T (rowAt (bfs T p k) k)).take i).foldl (visit (rowAt (bfs T p k) k)) (bfs T p k) = F at hf2 hr2 ⊢
      have hkF : k < F.length := by rw [← hF]; exact Nat.lt_of_lt_of_le hkl (visits_grow _)
      have hrF : rowAt F k = rowAt (bfs T p k) k := by rw [← hF]; exact rowAt_visits hkl
      obtain ⟨ra2, rm2⟩ := rowAt_of hkF
      rw [hrF] at ra2 rm2
      have hFl : F.length ≤ 100 := by
        have h1 := visits_len (x := rowAt (bfs T p k) k) ((nearF T (rowAt (bfs T p k) k)).take i) (f := bfs T p k)
        rw [hF, List.length_take] at h1
        have h3 := near_len (p := rowAt (bfs T p k) k) ok.len
        omega
      have gd : DGet H2 fd (.int (o : Int)) (valV (kvF F) (Sum.inl (o : Int))) := DGet.k (k := Sum.inl (o : Int)) hf2
      refine ⟨_, rfl, _, rfl, fd, _, rfl, gd, _, rfl, ?_⟩
      rw [kvF_get]
      by_cases c : o ∈ F.map (·.1)
      · rw [if_pos c]
        refine iteF ?_
        have ev : ([o].foldl (visit (rowAt (bfs T p k) k)) F) = F := by
          show visit _ F o = F
          unfold visit
          rw [if_pos c]
        rw [ev]
        exact ⟨_, rfl, sH2, hl2, hf2, hr2⟩
      · rw [if_neg c]
        refine iteT ?_
        have ev : ([o].foldl (visit (rowAt (bfs T p k) k)) F) = F ++ [(o, look F (rowAt (bfs T p k) k) + 1)] := by
          show visit _ F o = _
          unfold visit
          rw [if_neg c]
        rw [ev]
        have gx : DGet H2 fd (.int (rowAt (bfs T p k) k : Int)) (some (.int (look F (rowAt (bfs T p k) k) : Int))) := by
          have := DGet.k (k := Sum.inl (rowAt (bfs T p k) k : Int)) hf2
          rw [kvF_get, if_pos rm2] at this
          exact this
        refine ⟨_, rfl, _, rfl, _, rfl, rw', _, (k : Int), _, rfl, rfl, SqL.of hr2, ra2, fd, _, rfl, gx, _, _, rfl, rfl, _, rfl, _, rfl, fd, _, rfl, DPut.k (k := Sum.inl (o : Int)) hf2 (by rw [kvF_len]; exact small1000 (by omega)), ?_⟩
        have ep : putK (kvF F) (Sum.inl (o : Int)) (V.int ((look F (rowAt (bfs T p k) k) : Int) + 1)) = kvF (F ++ [(o, look F (rowAt (bfs T p k) k) + 1)]) := by
          rw [← kvF_put c]
          rfl
        rw [ep]
        have hrf : rw' ≠ fd := hne.symm
        refine ⟨_, rfl, .inl ⟨rfl, _, SqL.of (by rw [upd_ne hrf]; exact hr2)⟩, _, rfl, rw', _, _, rfl, rfl, by rw [upd_ne hrf]; exact hr2, by rw [List.length_map, List.length_map]; exact small1000 (by omega), ?_⟩
        refine ⟨_, rfl, (sH2.putK hfd).putK hrw0, by rw [upd_ne lr, upd_ne lf]; exact hl2, by rw [upd_ne hne, upd_same], ?_⟩
        rw [upd_same]
        show some (HO.lst (rowV F ++ [V.int (o : Int)])) = some (HO.lst (nV ((F ++ [(o, look F (rowAt (bfs T p k) k) + 1)]).map (·.1))))
        rw [List.map_append]
        exact congrArg (fun z => some (HO.lst z)) (nV_snoc _ _).symm
    · rintro σ H2 ⟨v5, rfl, sH2, hl2, hf2, hr2⟩
      rw [List.length_map, List.take_of_length_le (Nat.le_refl _)] at hf2 hr2
      exact ⟨_, rfl, _, _, rfl, rfl, _, rfl, sH2, hf2, hr2⟩
  · have hkn : k = n := by
      by_cases e : k = n
      · exact e
      · exfalso
        refine c (decide_eq_true ?_)
        show (k : Int) < (((rowV (bfs T p k)).length : Nat) : Int)
        rw [List.length_map, List.length_map]
        have := okp.go k (by omega)
        omega
    rw [hkn] at hf
    exact ⟨.ref fd, rfl, q H' fd sH hfd hf⟩
end
end K64

set_option Elab.async false
set_option linter.all false
set_option maxRecDepth 100000
set_option maxHeartbeats 4000000
/-! far, the pieces, the questions -/
namespace K64
open PySem PySem.Spec PyProof.Rows L2
open C8 (Cal pe_c)
theorem atI_neg1 {ds : List Addr} {d : Addr} (h : ds[ds.length - 1]? = some d) : atI (ds.map V.ref) (-1) = some (.ref d) := by
  have hl := (List.getElem?_eq_some_iff.mp h).1
  have e : ixN (ds.map V.ref).length (-1) = some (ds.length - 1) := by
    unfold ixN
    rw [if_neg (by decide), List.length_map, if_pos (by omega)]
    congr 1
    omega
  unfold atI
  rw [e]
  show (ds.map V.ref)[ds.length - 1]? = _
  rw [List.getElem?_map, h]
  rfl
theorem dKeys_keys (L : List (List Int)) : (dKeys L).map (·.1) = L.map iK := by
  unfold dKeys
  rw [List.map_map]
  rfl
section
variable {P : Program} {w : World} {K : PySem.W.Frag} {mg : Str → Option Value} {base : Heap}
theorem sc_far : FnScope ["web", "one", "other"] ["web", "one", "other"] (defScope s_far) := ⟨rfl, rfl, rfl, by decide +kernel, rfl, by decide +kernel, by decide +kernel⟩
def spFar : Sp := fun vs H Q _ => ∃ (wa : Addr) (n : Nat) (T : Web) (p i : Nat), vs = [.ref wa, .int (p : Int), .int (i : Int)] ∧ WebAt H wa n T ∧ GW n T ∧ p < n ∧ i < n ∧ ∀ H', Same H H' → Q (.int (dist n T p i : Int)) H'
theorem c_far (cW : Cal P w K mg base 5 "need_web" spNeedWeb []) (cP : Cal P w K mg base 3 "need_place" spNeedPlace []) (cF : Cal P w K mg base 2 "fars" spFars []) (D : DefAt K mg "far" s_far) : Cal P w K mg base 6 "far" spFar [] := by
  refine cal_of D sc_far (fun _ _ _ _ _ _ us hl => match us, hl with | [_, _, _], _ => rfl) (fun vs H Q E h => ?_) (fun f cdv A outer s H vs Q E hr h => ?_)
  · obtain ⟨wa, n, T, p, i, rfl, _⟩ := h; rfl
  obtain ⟨wa, n, T, p, i, rfl, hW, gw, hp, hi, q⟩ := h
  have hu := hu_of hr
  refine ⟨_, pss_cons (ps_expr (pe_c cW hr (by decide) (by rfl) (pa_cons (pv 0) pa_nil)))
    (pss_cons (ps_expr (pe_c cP hr (by decide) (by rfl) (pa_cons (pv 0) (pa_cons (pv 1) pa_nil))))
    (pss_cons (ps_expr (pe_c cP hr (by decide) (by rfl) (pa_cons (pv 0) (pa_cons (pv 2) pa_nil))))
    (pss_one (ps_ret (pe_dget1 hu (pe_c cF hr (by decide) (by rfl) (pa_cons (pv 0) (pa_cons (pv 1) pa_nil))) (pv 2) ⟨rfl, rfl, rfl, rfl⟩))))), ?_⟩
  refine ⟨_, rfl, wa, n, T, rfl, hW, gw.ok, fun H1 s1 => ?_⟩
  refine ⟨_, rfl, _, rfl, wa, n, T, p, rfl, hW.same s1, hp, ?_⟩
  refine ⟨_, rfl, _, rfl, wa, n, T, i, rfl, hW.same s1, hi, ?_⟩
  have okp := gw.okP hp
  refine ⟨_, rfl, _, rfl, wa, n, T, p, rfl, hW.same s1, gw.ok, okp, fun H2 d s2 nd hd => ?_⟩
  refine ⟨d, rfl, .inl ⟨_, .inl hd⟩, _, rfl, _, DGet.k (k := Sum.inl (i : Int)) hd, ?_⟩
  rw [kvF_get, if_pos (okp.all i hi)]
  exact q H2 (s1.trans s2)

theorem sc_pieces_of : FnScope ["web", "found", "known", "place", "piece", "other"] ["web"] (defScope s_pieces_of) := ⟨rfl, rfl, rfl, by decide +kernel, rfl, by decide +kernel, by decide +kernel⟩
def spPieces : Sp := fun vs H Q _ => ∃ (wa : Addr) (n : Nat) (T : Web), vs = [.ref wa] ∧ WebAt H wa n T ∧ GW n T ∧ ∀ (H' : Hp) (l : Addr) (v : V), Same H H' → H l = none → H' l = some (.lst [v]) → Q (.ref l) H'
theorem c_pieces_of (B : Bl mg) (cF : Cal P w K mg base 2 "fars" spFars []) (D : DefAt K mg "pieces_of" s_pieces_of) : Cal P w K mg base 3 "pieces_of" spPieces [] := by
  refine cal_of D sc_pieces_of (fun _ _ _ _ _ _ us hl => match us, hl with | [_], _ => rfl) (fun vs H Q E h => ?_) (fun f cdv A outer s H vs Q E hr h => ?_)
  · obtain ⟨wa, n, T, rfl, _⟩ := h; rfl
  obtain ⟨wa, n, T, rfl, hW, gw, q⟩ := h
  have nd := sc_pieces_of.nd
  have hu := hu_of hr
  have ok := gw.ok
  have n2 := ok.n2
  have n4 := ok.n4
  refine ⟨_, pss_cons (ps_set (i := 1) nd rfl (.inl rfl) (pe_lst pa_nil))
    (pss_cons (ps_set (i := 2) nd rfl (.inl rfl) pe_dnewK)
    (pss_cons (ps_for PassesOwn.never rfl (pi_range1 (by rfl) B.range (pa_cons (pe_ix ix_tup (pv 0) pe_int (fun _ _ => rfl)) pa_nil)) (pg_name (i := 3) nd rfl (.inl rfl))
      (pss_one (ps_if (pt_cmp (pc_dnotin hu (pv 3) (pv 2)))
        (pss_cons (ps_set (i := 4) nd rfl (.inl rfl) (pe_callB (call_sortedDI rfl) (by rfl) B.sorted (by decide +kernel) (pa_cons (pe_c cF hr (by decide) (by rfl) (pa_cons (pv 0) (pa_cons (pv 3) pa_nil))) pa_nil)))
        (pss_cons (ps_for PassesOwn.never rfl (pi_list (pv 4)) (pg_name (i := 5) nd rfl (.inl rfl)) (pss_one (ps_dput hu (pv 2) (pv 5) pe_bl rfl)))
        (pss_one (ps_expr (pe_bm PySem.F.plainAttrs_list PySem.F.slot_list_append PySem.F.type_list_append mt_append (pv 1) (pa_cons (pe_callTy call_tuple_of (by rfl) B.tuple (by decide +kernel) (pa_cons (pv 4) pa_nil)) pa_nil)))))) pss_nil)))
    (pss_one (ps_ret (pv 1))))), ?_⟩
  refine ⟨Nat.zero_le _, fun fo hfo => ?_⟩
  intro kn hkn
  have s1 : Same H (upd H fo (.lst [])) := same_new hfo
  have s2 : Same H (upd (upd H fo (.lst [])) kn (.dK [])) := s1.newK hkn
  have hne : fo ≠ kn := ne_of_none upd_same hkn
  have hkn0 : H kn = none := s1.free hkn
  obtain ⟨tw, rs, w1, w2, w3⟩ := id hW
  refine ⟨_, rfl, wa, _, 0, _, rfl, rfl, SqT.of (s2 _ _ w1), rfl, (n : Int), rfl, by omega, by omega, for_range (lo := 0) (n := n)
    (fun i σ H' => ∃ (v3 v4 v5 : Option V), σ = [some (.ref wa), some (.ref fo), some (.ref kn), v3, v4, v5] ∧ Same H H' ∧
      ((i = 0 ∧ H' fo = some (.lst []) ∧ H' kn = some (.dK [])) ∨ (0 < i ∧ (∃ v, H' fo = some (.lst [v])) ∧ ∃ kvs, H' kn = some (.dK kvs) ∧ ∀ j : Nat, j < n → (valV kvs (Sum.inl (j : Int))).isSome = true)))
    ⟨none, none, none, rfl, s2, .inl ⟨rfl, by rw [upd_ne hne, upd_same], upd_same⟩⟩ ?_ ?_⟩
  · rintro i σ H' hi ⟨v3, v4, v5, rfl, sH, hcase⟩
    rw [Int.zero_add]
    rcases hcase with ⟨rfl, hf, hk⟩ | ⟨h0, ⟨v, hf⟩, kvs, hk, hall⟩
    · have gd : DGet H' kn (.int ((0 : Nat) : Int)) none := DGet.k (k := Sum.inl ((0 : Nat) : Int)) hk
      refine ⟨_, rfl, _, rfl, kn, _, rfl, gd, _, rfl, iteT ?_⟩
      have okp := gw.okP (p := 0) (by omega)
      refine ⟨_, rfl, _, rfl, wa, n, T, 0, rfl, hW.same sH, ok, okp, fun H1 d s3 ndd hd => ?_⟩
      have hfd : fo ≠ d := ne_of_none hf ndd
      have hkd : kn ≠ d := ne_of_none hk ndd
      refine ⟨d, _, ((bfs T 0 n).map (·.1)).map (fun i : Nat => (i : Int)), rfl, .inl hd, ?_, ?_, fun ys pl perm _ hpl => ?_⟩
      · unfold kvF
        rw [List.map_map, List.map_map, List.map_map]; rfl
      · rw [List.length_map, List.length_map, okp.stop]; omega
      have s4 : Same H1 (upd H1 pl (.lst (ys.map V.int))) := same_new hpl
      have sH4 : Same H (upd H1 pl (.lst (ys.map V.int))) := (sH.trans s3).trans s4
      have hk4 : (upd H1 pl (.lst (ys.map V.int))) kn = some (.dK []) := s4 _ _ (s3 _ _ hk)
      have hf4 : (upd H1 pl (.lst (ys.map V.int))) fo = some (.lst []) := s4 _ _ (s3 _ _ hf)
      have hp4 : (upd H1 pl (.lst (ys.map V.int))) pl = some (.lst (ys.map V.int)) := upd_same
      have hyl : ys.length ≤ 100 := by
        rw [perm.length_eq, List.length_map, List.length_map, okp.stop]; omega
      generalize upd H1 pl (.lst (ys.map V.int)) = H4 at sH4 hk4 hf4 hp4 ⊢
      have hpf : pl ≠ fo := (ne_of_none (s3 _ _ hf) hpl).symm
      have hpk : pl ≠ kn := (ne_of_none (s3 _ _ hk) hpl).symm
      refine ⟨_, rfl, pl, rfl, ⟨_, SqL.of hp4⟩, for_list (K := K) (a := pl) (xs := ys.map V.int)
        (fun i σ H' => ∃ (v5 : Option V) (kvs : List (L2.Key × V)), σ = [some (.ref wa), some (.ref fo), some (.ref kn), some (.int ((0 : Nat) : Int)), some (.ref pl), v5] ∧ Same H H' ∧ H' fo = some (.lst []) ∧ H' pl = some (.lst (ys.map V.int)) ∧
          H' kn = some (.dK kvs) ∧ kvs.length ≤ i ∧ ∀ (j : Nat) (y : Int), j < i → ys[j]? = some y → (valV kvs (Sum.inl y)).isSome = true)
        ⟨v5, [], rfl, sH4, hf4, hp4, hk4, Nat.le_refl _, fun j y hj => absurd hj (Nat.not_lt_zero _)⟩ (fun i σ H' _ ⟨_, _, _, _, _, e, _⟩ => SqL.of e) ?_ ?_⟩
      · rintro i x σ H5 hi ⟨v5, kvs, rfl, s5, hf5, hp5, hk5, hkl, hall⟩
        rw [List.getElem?_map] at hi
        obtain ⟨y, hy, rfl⟩ : ∃ y, ys[i]? = some y ∧ x = .int y := by
          cases e : ys[i]? with
          | none => rw [e] at hi; cases hi
          | some y => rw [e] at hi; exact ⟨y, rfl, (Option.some.inj hi).symm⟩
        have hil := (List.getElem?_eq_some_iff.mp hy).1
        refine ⟨_, rfl, _, rfl, kn, _, rfl, DPut.k (k := Sum.inl y) hk5 (small1000 (by omega)), ?_⟩
        refine ⟨_, putK kvs (Sum.inl y) (V.bl true), rfl, s5.putK hkn0, by rw [upd_ne hne]; exact hf5, by rw [upd_ne hpk]; exact hp5, upd_same, ?_, fun j z hj hz => ?_⟩
        · have := length_putK kvs (Sum.inl y) (V.bl true)
          omega
        · rw [valV_put]
          by_cases e : (Sum.inl z : L2.Key) = Sum.inl y
          · rw [if_pos e]; rfl
          · rw [if_neg e]
            refine hall j z ?_ hz
            by_cases ej : j = i
            · rw [ej, hy] at hz
              cases hz
              exact absurd rfl e
            · omega
      · rintro σ H5 ⟨v5, kvs, rfl, s5, hf5, hp5, hk5, hkl, hall⟩
        refine ⟨_, rfl, .inl ⟨rfl, _, SqL.of hf5⟩, _, rfl, pl, _, rfl, .inl ⟨SqL.of hp5, fun tp htp => ?_⟩⟩
        have s6 : Same H5 (upd H5 tp (.tup (ys.map V.int))) := same_new htp
        refine ⟨fo, _, _, rfl, rfl, s6 _ _ hf5, (by show 0 < sizeLine; decide), ?_⟩
        refine ⟨_, _, _, rfl, (s5.trans s6).putK hfo, .inr ⟨Nat.succ_pos _, ⟨.ref tp, upd_same⟩, kvs, by rw [upd_ne hne.symm]; exact s6 _ _ hk5, fun j hj => ?_⟩⟩
        have hm : (j : Int) ∈ ys := perm.mem_iff.mpr (List.mem_map.mpr ⟨j, okp.all j hj, rfl⟩)
        obtain ⟨k, hk⟩ := List.mem_iff_getElem?.mp hm
        exact hall k _ (by rw [List.length_map]; exact (List.getElem?_eq_some_iff.mp hk).1) hk
    · have gd : DGet H' kn (.int (i : Int)) (valV kvs (Sum.inl (i : Int))) := DGet.k (k := Sum.inl (i : Int)) hk
      refine ⟨_, rfl, _, rfl, kn, _, rfl, gd, _, rfl, ?_⟩
      rw [hall i hi]
      exact iteF ⟨_, v4, v5, rfl, sH, .inr ⟨Nat.succ_pos _, ⟨v, hf⟩, kvs, hk, hall⟩⟩
  · rintro σ H' ⟨v3, v4, v5, rfl, sH, hcase⟩
    rcases hcase with ⟨e, _⟩ | ⟨_, ⟨v, hf⟩, _⟩
    · omega
    · exact ⟨.ref fo, rfl, q H' fo v sH hfo hf⟩

theorem sc_one_piece : FnScope ["web"] ["web"] (defScope s_one_piece) := ⟨rfl, rfl, rfl, by decide +kernel, rfl, by decide +kernel, by decide +kernel⟩
def spOne : Sp := fun vs H Q _ => ∃ (wa : Addr) (n : Nat) (T : Web), vs = [.ref wa] ∧ WebAt H wa n T ∧ GW n T ∧ ∀ H', Same H H' → Q (.bl true) H'
theorem c_one_piece (B : Bl mg) (cP : Cal P w K mg base 3 "pieces_of" spPieces []) (D : DefAt K mg "one_piece" s_one_piece) : Cal P w K mg base 4 "one_piece" spOne [] := by
  refine cal_of D sc_one_piece (fun _ _ _ _ _ _ us hl => match us, hl with | [_], _ => rfl) (fun vs H Q E h => ?_) (fun f cdv A outer s H vs Q E hr h => ?_)
  · obtain ⟨wa, n, T, rfl, _⟩ := h; rfl
  obtain ⟨wa, n, T, rfl, hW, gw, q⟩ := h
  refine ⟨_, pss_one (ps_ret (pe_cmpR op_eq (pe_callB call_len_seq (by rfl) B.len PySem.boot_len (pa_cons (pe_c cP hr (by decide) (by rfl) (pa_cons (pv 0) pa_nil)) pa_nil)) pe_int (nomark _))), ?_⟩
  exact ⟨_, rfl, wa, n, T, rfl, hW, gw, fun H1 l v s1 _ hl => ⟨l, _, rfl, .inl (SqL.of hl), rfl, q H1 s1⟩⟩

theorem sc_need_small : FnScope ["web"] ["web"] (defScope s_need_small) := ⟨rfl, rfl, rfl, by decide +kernel, rfl, by decide +kernel, by decide +kernel⟩
def spSmall : Sp := fun vs H Q _ => ∃ (wa : Addr) (n : Nat) (T : Web), vs = [.ref wa] ∧ WebAt H wa n T ∧ GW n T ∧ ∀ H', Same H H' → Q .non H'
theorem c_need_small (B : Bl mg) (cO : Cal P w K mg base 4 "one_piece" spOne []) (cF : Cal P w K mg base 1 "need_few" spNeedFew []) (D : DefAt K mg "need_small" s_need_small) : Cal P w K mg base 5 "need_small" spSmall [] := by
  refine cal_of D sc_need_small (fun _ _ _ _ _ _ us hl => match us, hl with | [_], _ => rfl) (fun vs H Q E h => ?_) (fun f cdv A outer s H vs Q E hr h => ?_)
  · obtain ⟨wa, n, T, rfl, _⟩ := h; rfl
  obtain ⟨wa, n, T, rfl, hW, gw, q⟩ := h
  obtain ⟨tk, hmg⟩ := B.mgo
  refine ⟨_, pss_cons (ps_if (pt_not (pt_val (pe_c cO hr (by decide) (by rfl) (pa_cons (pv 0) pa_nil)))) pss_never pss_nil)
    (pss_one (ps_expr (pe_c cF hr (by decide) (by rfl) (pa_cons (pe_ix ix_tup (pv 0) pe_int (fun _ _ => rfl)) (pa_cons (pe_glob (v := .int 6) (by rfl) hmg ⟨_, rfl⟩) pa_nil))))), ?_⟩
  refine ⟨_, rfl, wa, n, T, rfl, hW, gw, fun H1 s1 => ⟨true, rfl, iteF ?_⟩⟩
  obtain ⟨tw, rs, w1, w2, w3⟩ := id hW
  have n4 := gw.ok.n4
  exact ⟨_, rfl, wa, _, 0, _, rfl, rfl, SqT.of (s1 _ _ w1), rfl, _, _, rfl, by omega, q H1 s1⟩

theorem sc_need_asked : FnScope ["web", "place", "m"] ["web", "place", "m"] (defScope s_need_asked) := ⟨rfl, rfl, rfl, by decide +kernel, rfl, by decide +kernel, by decide +kernel⟩
def spAsked : Sp := fun vs H Q _ => ∃ (wa : Addr) (n : Nat) (T : Web) (p : Nat) (m : Int), vs = [.ref wa, .int (p : Int), .int m] ∧ WebAt H wa n T ∧ Ok n T ∧ p < n ∧ 1 ≤ m ∧ m ≤ 2 ∧ ∀ H', Same H H' → Q .non H'
theorem c_need_asked (B : Bl mg) (cW : Cal P w K mg base 5 "need_web" spNeedWeb []) (cP : Cal P w K mg base 3 "need_place" spNeedPlace []) (cN : Cal P w K mg base 3 "need_number" spNeedNumber []) (D : DefAt K mg "need_asked" s_need_asked) : Cal P w K mg base 6 "need_asked" spAsked [] := by
  refine cal_of D sc_need_asked (fun _ _ _ _ _ _ us hl => match us, hl with | [_, _, _], _ => rfl) (fun vs H Q E h => ?_) (fun f cdv A outer s H vs Q E hr h => ?_)
  · obtain ⟨wa, n, T, p, m, rfl, _⟩ := h; rfl
  obtain ⟨wa, n, T, p, m, rfl, hW, ok, hp, hm, hm2, q⟩ := h
  obtain ⟨tk, hmb⟩ := B.mb
  refine ⟨_, pss_cons (ps_expr (pe_c cW hr (by decide) (by rfl) (pa_cons (pv 0) pa_nil)))
    (pss_cons (ps_expr (pe_c cP hr (by decide) (by rfl) (pa_cons (pv 0) (pa_cons (pv 1) pa_nil))))
    (pss_one (ps_expr (pe_c cN hr (by decide) (by rfl) (pa_cons (pv 2) (pa_cons pe_int (pa_cons (pe_glob (v := .int 3) (by rfl) hmb ⟨_, rfl⟩) pa_nil))))))), ?_⟩
  refine ⟨_, rfl, wa, n, T, rfl, hW, ok, fun H1 s1 => ?_⟩
  refine ⟨_, rfl, _, rfl, wa, n, T, p, rfl, hW.same s1, hp, ?_⟩
  exact ⟨_, rfl, m, 1, 3, rfl, hm, by omega, q H1 s1⟩

/-- what need, worst and fails are asked -/
structure Asked (H : Hp) (wa : Addr) (n : Nat) (T : Web) (p : Nat) (m : Int) : Prop where
  web : WebAt H wa n T
  gw : GW n T
  hp : p < n
  m1 : 1 ≤ m
  m2 : m ≤ 2
theorem Asked.same {H H' : Hp} {wa : Addr} {n : Nat} {T : Web} {p : Nat} {m : Int} (s : Same H H') (a : Asked H wa n T p m) : Asked H' wa n T p m := ⟨a.web.same s, a.gw, a.hp, a.m1, a.m2⟩
theorem Asked.zero {H : Hp} {wa : Addr} {n : Nat} {T : Web} {p : Nat} {m : Int} (a : Asked H wa n T p m) {N : Nat} (h : IsNeed n T p m N) : 0 < N :=
  h.gt a.gw.ok.wf ((lev_zero a.m1).mpr rfl)
theorem sc_need : FnScope ["web", "place", "m"] ["web", "place", "m"] (defScope s_need) := ⟨rfl, rfl, rfl, by decide +kernel, rfl, by decide +kernel, by decide +kernel⟩
def spNeed : Sp := fun vs H Q _ => ∃ (wa : Addr) (n : Nat) (T : Web) (p : Nat) (m : Int), vs = [.ref wa, .int (p : Int), .int m] ∧ Asked H wa n T p m ∧ ∀ (H' : Hp) (N : Nat), Same H H' → IsNeed n T p m N → Q (.int (N : Int)) H'
theorem c_need (B : Bl mg) (cA : Cal P w K mg base 6 "need_asked" spAsked []) (cS : Cal P w K mg base 5 "need_small" spSmall []) (cF : Cal P w K mg base 5 "failing" spFailing []) (D : DefAt K mg "need" s_need) : Cal P w K mg base 7 "need" spNeed [] := by
  refine cal_of D sc_need (fun _ _ _ _ _ _ us hl => match us, hl with | [_, _, _], _ => rfl) (fun vs H Q E h => ?_) (fun f cdv A outer s H vs Q E hr h => ?_)
  · obtain ⟨wa, n, T, p, m, rfl, _⟩ := h; rfl
  obtain ⟨wa, n, T, p, m, rfl, a, q⟩ := h
  refine ⟨_, pss_cons (ps_expr (pe_c cA hr (by decide) (by rfl) (pa_cons (pv 0) (pa_cons (pv 1) (pa_cons (pv 2) pa_nil)))))
    (pss_cons (ps_expr (pe_c cS hr (by decide) (by rfl) (pa_cons (pv 0) pa_nil)))
    (pss_one (ps_ret (pe_callB call_len_seq (by rfl) B.len PySem.boot_len (pa_cons (pe_c cF hr (by decide) (by rfl) (pa_cons (pv 0) (pa_cons (pv 1) (pa_cons (pv 2) pa_nil)))) pa_nil))))), ?_⟩
  refine ⟨_, rfl, _, rfl, _, rfl, wa, n, T, p, m, rfl, a.web, a.gw.ok, a.hp, a.m1, a.m2, fun H1 s1 => ?_⟩
  refine ⟨_, rfl, wa, n, T, rfl, a.web.same s1, a.gw, fun H2 s2 => ?_⟩
  refine ⟨_, rfl, _, rfl, _, rfl, wa, n, T, p, m, rfl, (a.web.same s1).same s2, a.gw, a.hp, a.m1, a.m2, fun H3 fo ds N s3 _ hl hN isn _ => ?_⟩
  refine ⟨fo, _, rfl, .inl (SqL.of hl), ?_⟩
  rw [List.length_map, hN]
  exact q H3 N ((s1.trans s2).trans s3) isn

/-- a new list of the heaps of level j -/
def LAt (n : Nat) (T : Web) (p : Nat) (m : Int) (j : Nat) (H : Hp) (r : Addr) (l : List (Addr × List Int)) : Prop :=
  H r = some (.lst (l.map fun q => V.ref q.1)) ∧ (∀ q ∈ l, HAt H q.1 q.2) ∧ ∀ x, x ∈ l.map Prod.snd ↔ Lev n T p m j x
theorem lev_sorted {X : Cx} {n : Nat} {T : Web} {p : Nat} {m : Int} {j : Nat} {H : Hp} {d : Addr} {Q : VK} {wa : Addr} (a : Asked H wa n T p m) (h : DLev n T p m H d j)
    (q : ∀ (H' : Hp) (r : Addr) (l : List (Addr × List Int)), Same H H' → H r = none → LAt n T p m j H' r l → Q (.ref r) H') : rSortDT [.ref d] H Q := by
  obtain ⟨L, hL, ndL, isl⟩ := h
  have n2 := a.gw.ok.n2
  refine ⟨d, dKeys L, L, n, 16, rfl, .inl hL, dKeys_keys L, by omega, fun k hk => ?_, fun l r perm hl hr => ?_⟩
  · have lv := (isl k).mp hk
    refine ⟨lv.len, fun y hy => ?_⟩
    obtain ⟨i, hi, e⟩ := List.getElem_of_mem hy
    have z := lv.le15 a.gw a.hp (by have := a.m1; omega) a.m2 i
    have eg : g k i = y := by
      unfold g
      rw [List.getD_eq_getElem?_getD, List.getElem?_eq_getElem hi, e]; rfl
    rw [eg] at z
    omega
  · have s1 : Same H (upd H r (.lst (l.map fun q => V.ref q.1))) := same_new hr
    exact q _ r l s1 hr ⟨upd_same, fun z hz => s1 _ _ (hl z hz), fun x => by rw [perm.mem_iff]; exact isl x⟩
theorem sc_worst : FnScope ["web", "place", "m"] ["web", "place", "m"] (defScope s_worst) := ⟨rfl, rfl, rfl, by decide +kernel, rfl, by decide +kernel, by decide +kernel⟩
def spWorst : Sp := fun vs H Q _ => ∃ (wa : Addr) (n : Nat) (T : Web) (p : Nat) (m : Int) (N : Nat), vs = [.ref wa, .int (p : Int), .int m] ∧ Asked H wa n T p m ∧ IsNeed n T p m N ∧
  ∀ (H' : Hp) (r : Addr) (l : List (Addr × List Int)), Same H H' → H r = none → LAt n T p m (N - 1) H' r l → Q (.ref r) H'
theorem c_worst (B : Bl mg) (cA : Cal P w K mg base 6 "need_asked" spAsked []) (cS : Cal P w K mg base 5 "need_small" spSmall []) (cF : Cal P w K mg base 5 "failing" spFailing []) (D : DefAt K mg "worst" s_worst) : Cal P w K mg base 7 "worst" spWorst [] := by
  refine cal_of D sc_worst (fun _ _ _ _ _ _ us hl => match us, hl with | [_, _, _], _ => rfl) (fun vs H Q E h => ?_) (fun f cdv A outer s H vs Q E hr h => ?_)
  · obtain ⟨wa, n, T, p, m, N, rfl, _⟩ := h; rfl
  obtain ⟨wa, n, T, p, m, N, rfl, a, isn, q⟩ := h
  refine ⟨_, pss_cons (ps_expr (pe_c cA hr (by decide) (by rfl) (pa_cons (pv 0) (pa_cons (pv 1) (pa_cons (pv 2) pa_nil)))))
    (pss_cons (ps_expr (pe_c cS hr (by decide) (by rfl) (pa_cons (pv 0) pa_nil)))
    (pss_one (ps_ret (pe_callB (cr_sortedDT rfl) (by rfl) B.sorted (by decide +kernel) (pa_cons (pe_ix ix_list (pe_c cF hr (by decide) (by rfl) (pa_cons (pv 0) (pa_cons (pv 1) (pa_cons (pv 2) pa_nil)))) (pe_un un_neg pe_int) (fun _ _ => rfl)) pa_nil))))), ?_⟩
  refine ⟨_, rfl, _, rfl, _, rfl, wa, n, T, p, m, rfl, a.web, a.gw.ok, a.hp, a.m1, a.m2, fun H1 s1 => ?_⟩
  refine ⟨_, rfl, wa, n, T, rfl, a.web.same s1, a.gw, fun H2 s2 => ?_⟩
  refine ⟨_, rfl, _, rfl, _, rfl, wa, n, T, p, m, rfl, (a.web.same s1).same s2, a.gw, a.hp, a.m1, a.m2, fun H3 fo ds M s3 _ hl hM isM hds => ?_⟩
  have eM : M = N := isM.uniq isn
  have hN := a.zero isn
  have s13 := (s1.trans s2).trans s3
  obtain ⟨dd, hd⟩ : ∃ d, ds[ds.length - 1]? = some d := ⟨_, List.getElem?_eq_getElem (by omega)⟩
  refine ⟨1, rfl, fo, _, -1, _, rfl, rfl, SqL.of hl, atI_neg1 hd, ?_⟩
  have dl := hds _ _ hd
  rw [hM, eM] at dl
  exact lev_sorted (X := (cxOf CX0 P w K mg base ["web", "place", "m"] "worst" (defScope s_worst) f cdv A outer s H E).nox) (a.same s13) dl fun H4 r l s4 nr la => q H4 r l (s13.trans s4) (s13.free nr) la

theorem sc_fails : FnScope ["web", "place", "m", "stones", "rows"] ["web", "place", "m", "stones"] (defScope s_fails) := ⟨rfl, rfl, rfl, by decide +kernel, rfl, by decide +kernel, by decide +kernel⟩
def spFails : Sp := fun vs H Q _ => ∃ (wa : Addr) (n : Nat) (T : Web) (p : Nat) (m : Int) (N st : Nat), vs = [.ref wa, .int (p : Int), .int m, .int (st : Int)] ∧ Asked H wa n T p m ∧ IsNeed n T p m N ∧ st < N ∧
  ∀ (H' : Hp) (r : Addr) (l : List (Addr × List Int)), Same H H' → H r = none → LAt n T p m st H' r l → Q (.ref r) H'
theorem c_fails (B : Bl mg) (cA : Cal P w K mg base 6 "need_asked" spAsked []) (cN : Cal P w K mg base 3 "need_number" spNeedNumber []) (cS : Cal P w K mg base 5 "need_small" spSmall []) (cF : Cal P w K mg base 5 "failing" spFailing []) (D : DefAt K mg "fails" s_fails) : Cal P w K mg base 7 "fails" spFails [] := by
  refine cal_of D sc_fails (fun _ _ _ _ _ _ us hl => match us, hl with | [_, _, _, _], _ => rfl) (fun vs H Q E h => ?_) (fun f cdv A outer s H vs Q E hr h => ?_)
  · obtain ⟨wa, n, T, p, m, N, st, rfl, _⟩ := h; rfl
  obtain ⟨wa, n, T, p, m, N, st, rfl, a, isn, hst, q⟩ := h
  have nd := sc_fails.nd
  obtain ⟨tk, hms⟩ := B.ms
  refine ⟨_, pss_cons (ps_expr (pe_c cA hr (by decide) (by rfl) (pa_cons (pv 0) (pa_cons (pv 1) (pa_cons (pv 2) pa_nil)))))
    (pss_cons (ps_expr (pe_c cN hr (by decide) (by rfl) (pa_cons (pv 3) (pa_cons pe_int (pa_cons (pe_glob (v := .int 300) (by rfl) hms ⟨_, rfl⟩) pa_nil)))))
    (pss_cons (ps_expr (pe_c cS hr (by decide) (by rfl) (pa_cons (pv 0) pa_nil)))
    (pss_cons (ps_set (i := 4) nd rfl (.inl rfl) (pe_c cF hr (by decide) (by rfl) (pa_cons (pv 0) (pa_cons (pv 1) (pa_cons (pv 2) pa_nil)))))
    (pss_cons (ps_if (pt_cmpR op_ge (pv 3) (pe_callB call_len_seq (by rfl) B.len PySem.boot_len (pa_cons (pv 4) pa_nil)) (nomark _)) (pss_one (ps_ret (pe_lst pa_nil))) pss_nil)
    (pss_one (ps_ret (pe_callB (cr_sortedDT rfl) (by rfl) B.sorted (by decide +kernel) (pa_cons (pe_ix ix_list (pv 4) (pv 3) (fun _ _ => rfl)) pa_nil)))))))), ?_⟩
  refine ⟨_, rfl, _, rfl, _, rfl, wa, n, T, p, m, rfl, a.web, a.gw.ok, a.hp, a.m1, a.m2, fun H1 s1 => ?_⟩
  have h64 : st < 64 := by
    obtain ⟨x, lx⟩ := isn.1 st hst
    exact lx.lt64 a.gw a.hp (by have := a.m1; omega) a.m2
  refine ⟨_, rfl, _, _, _, rfl, by omega, by omega, ?_⟩
  refine ⟨_, rfl, wa, n, T, rfl, a.web.same s1, a.gw, fun H2 s2 => ?_⟩
  refine ⟨_, rfl, _, rfl, _, rfl, wa, n, T, p, m, rfl, (a.web.same s1).same s2, a.gw, a.hp, a.m1, a.m2, fun H3 fo ds M s3 _ hl hM isM hds => ?_⟩
  have eM : M = N := isM.uniq isn
  have s13 := (s1.trans s2).trans s3
  refine ⟨_, rfl, _, rfl, fo, _, rfl, .inl (SqL.of hl), _, _, rfl, rfl, _, rfl, ?_⟩
  rw [decide_eq_false (show ¬ (((ds.map V.ref).length : Nat) : Int) ≤ (st : Int) by rw [List.length_map]; omega)]
  refine iteF ?_
  have hd : ds[st]? = some (ds[st]'(by omega)) := List.getElem?_eq_getElem _
  refine ⟨_, rfl, _, rfl, fo, _, (st : Int), _, rfl, rfl, SqL.of hl, atI_nat (by rw [List.getElem?_map, hd]; rfl), ?_⟩
  exact lev_sorted (X := (cxOf CX0 P w K mg base ["web", "place", "m", "stones", "rows"] "fails" (defScope s_fails) f cdv A outer s H E).nox) (a.same s13) (hds _ _ hd) fun H4 r l s4 nr la => q H4 r l (s13.trans s4) (s13.free nr) la
end
end K64

set_option Elab.async false
set_option linter.all false
set_option maxRecDepth 100000
set_option maxHeartbeats 4000000
/-! the law's own defs: pairs, stirred numbers, webs by a cell -/
namespace K64
open PySem PySem.Spec PyProof.Rows L2
open C8 (Cal pe_c)
theorem sort_prs {H : Hp} {a : Addr} {rs : List Addr} {L : Web} {Q : VK} (ha : H a = some (.lst (rs.map V.ref)) ∨ H a = some (.tup (rs.map V.ref))) (pr : Prs H rs L) (nd : L.Nodup) (hb : ∀ e ∈ L, e.1 < 100 ∧ e.2 < 100)
    (k : ∀ (H' : Hp) (p : Addr) (rs' : List Addr) (L' : Web), Same H H' → H p = none → H' p = some (.lst (rs'.map V.ref)) → Prs H' rs' L' → L'.Perm L → L'.Pairwise lexN → Q (.ref p) H') : rSortTT [.ref a] H Q := by
  obtain ⟨zl, h1, h2, h3⟩ := pr.zip
  have e1 : (zl.map fun q => (q.1, ([(q.2.1 : Int), (q.2.2 : Int)] : List Int))).map (fun q => V.ref q.1) = rs.map V.ref := by
    rw [← h1, List.map_map, List.map_map]; rfl
  refine ⟨a, zl.map fun q => (q.1, [(q.2.1 : Int), (q.2.2 : Int)]), 2, 100, rfl, by rw [e1]; exact ha, fun q hq => ?_, by decide, fun q hq => ?_, fun l' p perm srt hp => ?_⟩
  · obtain ⟨z, hz, rfl⟩ := List.mem_map.mp hq
    exact h3 z hz
  · obtain ⟨z, hz, rfl⟩ := List.mem_map.mp hq
    refine ⟨rfl, fun y hy => ?_⟩
    have hm : z.2 ∈ L := by rw [← h2]; exact List.mem_map.mpr ⟨z, hz, rfl⟩
    have hbz := hb _ hm
    rcases List.mem_cons.mp hy with e | hy
    · rw [e]; exact ⟨by omega, by have := hbz.1; show ((z.2.1 : Nat) : Int) < 100; omega⟩
    · rw [List.mem_singleton.mp hy]; exact ⟨by omega, by have := hbz.2; show ((z.2.2 : Nat) : Int) < 100; omega⟩
  · obtain ⟨z', q1, q2⟩ := perm_lift (fun q : Addr × (Nat × Nat) => (q.1, ([(q.2.1 : Int), (q.2.2 : Int)] : List Int))) perm zl rfl
    have pL : (z'.map Prod.snd).Perm L := by rw [← h2]; exact q1.map _
    have nd' : (z'.map Prod.snd).Nodup := pL.nodup_iff.mpr nd
    have e2 : (l'.map fun q => V.ref q.1) = (z'.map Prod.fst).map V.ref := by
      rw [← q2, List.map_map, List.map_map]; rfl
    have s1 : Same H (upd H p (.lst (l'.map fun q => V.ref q.1))) := same_new hp
    refine k _ p (z'.map Prod.fst) (z'.map Prod.snd) s1 hp (by rw [upd_same, e2]) ((Prs.unzip fun q hq => h3 q (q1.mem_iff.mp hq)).same s1) pL ?_
    rw [List.pairwise_map]
    have nd2 : z'.Pairwise fun x y => x.2 ≠ y.2 := by
      have := nd'
      unfold List.Nodup at this
      rw [List.pairwise_map] at this
      exact this
    have srt2 : z'.Pairwise fun x y => TS.code 100 [(x.2.1 : Int), (x.2.2 : Int)] ≤ TS.code 100 [(y.2.1 : Int), (y.2.2 : Int)] := by
      rw [← q2, List.pairwise_map] at srt
      exact srt
    have bd : ∀ x ∈ z', TS.Bd 100 [(x.2.1 : Int), (x.2.2 : Int)] := fun x hx y hy => by
      have hm : x.2 ∈ L := by rw [← h2]; exact List.mem_map.mpr ⟨x, q1.mem_iff.mp hx, rfl⟩
      have hbz := hb _ hm
      rcases List.mem_cons.mp hy with e | hy
      · rw [e]; exact ⟨by omega, by have := hbz.1; show ((x.2.1 : Nat) : Int) < 100; omega⟩
      · rw [List.mem_singleton.mp hy]; exact ⟨by omega, by have := hbz.2; show ((x.2.2 : Nat) : Int) < 100; omega⟩
    refine List.Pairwise.imp_of_mem (fun {x y} hx hy hxy => ?_) (nd2.and srt2)
    have c := code_lex (bd x hx) (bd y hy) hxy.2
    unfold lexN
    rcases c with c | ⟨c1, c2⟩
    · exact .inl (by omega)
    · refine .inr ⟨by omega, ?_⟩
      have : x.2.2 ≠ y.2.2 := fun z => hxy.1 (Prod.ext (by omega) z)
      omega
theorem mem_pairs {n : Nat} {e : Nat × Nat} : e ∈ pairsF n ↔ e.1 < e.2 ∧ e.2 < n := by
  unfold pairsF
  rw [List.mem_flatMap]
  constructor
  · rintro ⟨a, ha, h⟩
    obtain ⟨j, hj, rfl⟩ := List.mem_map.mp h
    rw [List.mem_range] at ha hj
    exact ⟨by show a < a + 1 + j; omega, by show a + 1 + j < n; omega⟩
  · rintro ⟨h1, h2⟩
    refine ⟨e.1, List.mem_range.mpr (by omega), List.mem_map.mpr ⟨e.2 - (e.1 + 1), List.mem_range.mpr (by omega), ?_⟩⟩
    exact Prod.ext rfl (by show e.1 + 1 + (e.2 - (e.1 + 1)) = e.2; omega)
/-- the pairs that begin with a -/
def rowF (n a : Nat) : Web := (List.range (n - (a + 1))).map fun j => (a, a + 1 + j)
def pairsU (n i : Nat) : Web := (List.range i).flatMap (rowF n)
theorem pairsU_succ (n i : Nat) : pairsU n (i + 1) = pairsU n i ++ rowF n i := by
  unfold pairsU
  rw [List.range_succ, List.flatMap_append]
  simp
theorem pairsU_le {n : Nat} (hn : n ≤ 4) : ∀ i, (pairsU n i).length ≤ 4 * i
  | 0 => Nat.le_refl _
  | i + 1 => by
    have := pairsU_le hn i
    rw [pairsU_succ, List.length_append]
    have h2 : (rowF n i).length ≤ 4 := by
      unfold rowF
      rw [List.length_map, List.length_range]; omega
    omega
section
variable {P : Program} {w : World} {K : PySem.W.Frag} {mg : Str → Option Value} {base : Heap}
theorem sc_law_pairs : FnScope ["many", "found", "a", "b"] ["many"] (defScope s_law_pairs) := ⟨rfl, rfl, rfl, by decide +kernel, rfl, by decide +kernel, by decide +kernel⟩
def spPairs : Sp := fun vs H Q _ => ∃ n : Nat, vs = [.int (n : Int)] ∧ n ≤ 4 ∧ ∀ (H' : Hp) (p : Addr) (rs : List Addr), Same H H' → H p = none → H' p = some (.lst (rs.map V.ref)) → Prs H' rs (pairsF n) → Q (.ref p) H'
theorem c_law_pairs (B : Bl mg) (D : DefAt K mg "_law_pairs" s_law_pairs) : Cal P w K mg base 1 "_law_pairs" spPairs [] := by
  refine cal_of D sc_law_pairs (fun _ _ _ _ _ _ us hl => match us, hl with | [_], _ => rfl) (fun vs H Q E h => ?_) (fun f cdv A outer s H vs Q E hr h => ?_)
  · obtain ⟨n, rfl, _⟩ := h; rfl
  obtain ⟨n, rfl, n4, q⟩ := h
  have nd := sc_law_pairs.nd
  refine ⟨_, pss_cons (ps_set (i := 1) nd rfl (.inl rfl) (pe_lst pa_nil))
    (pss_cons (ps_for PassesOwn.never rfl (pi_range1 (by rfl) B.range (pa_cons (pv 0) pa_nil)) (pg_name (i := 2) nd rfl (.inr rfl))
      (pss_one (ps_set (i := 1) nd rfl (.inl rfl) (pe_op op_cat (pv 1) (pe_lc (own := [("b", 3)]) (g := gName 3) (tt := tYes) (by rfl) nd (pi_range2 (by rfl) B.range (pa_cons (pe_op op_add (pv 2) pe_int) (pa_cons (pv 0) pa_nil))) (blkOk_by (N := ["many", "found", "a", "b"]) (sc := defScope s_law_pairs) (by decide +kernel))
        (fun _ _ _ _ _ => pg_name (i := 3) nd rfl (Or.inl rfl)) (fun _ _ _ _ _ => pts_nil) (fun _ _ _ _ _ => pe_tup (pa_cons (pv 2) (pa_cons (pv 3) pa_nil))))))))
    (pss_one (ps_ret (pv 1)))), ?_⟩
  refine ⟨Nat.zero_le _, fun fo hfo => ?_⟩
  refine ⟨_, rfl, (n : Int), rfl, by omega, by omega, for_range (lo := 0) (n := n)
    (fun i σ H' => ∃ (v2 v3 : Option V) (fo : Addr) (rs : List Addr), σ = [some (.int (n : Int)), some (.ref fo), v2, v3] ∧ Same H H' ∧ H fo = none ∧ H' fo = some (.lst (rs.map V.ref)) ∧ Prs H' rs (pairsU n i))
    ⟨none, none, fo, [], rfl, same_new hfo, hfo, upd_same, .nil⟩ ?_ ?_⟩
  · rintro i σ H' hi ⟨v2, v3, fo, rs, rfl, sH, hfo, hf, pr⟩
    rw [Int.zero_add]
    have lp := pr.len
    have lp2 := pairsU_le n4 i
    refine ⟨_, rfl, _, rfl, _, _, rfl, rfl, _, rfl, _, _, rfl, ⟨by omega, by omega, by omega, by omega⟩, fun Dl hD => ?_⟩
    have hfD : fo ≠ Dl := ne_of_none hf hD
    have eN : ((n : Int) - ((i : Int) + 1)).toNat = n - (i + 1) := by omega
    refine lc_range (lo := (i : Int) + 1) (n := ((n : Int) - ((i : Int) + 1)).toNat) (fun k H2 => ∃ qs : List Addr, Same H' H2 ∧ H2 Dl = some (.lst (qs.map V.ref)) ∧ Prs H2 qs ((List.range k).map fun j => (i, i + 1 + j)))
      ⟨[], same_new hD, upd_same, .nil⟩ ?_ ?_
    · rintro k H2 hk ⟨qs, s2, hq, pq⟩
      have ql := pq.len
      rw [List.length_map, List.length_range] at ql
      refine ⟨rfl, ?_⟩
      dsimp only [tYes]
      rw [if_pos rfl]
      refine ⟨_, rfl, _, rfl, (by show 2 ≤ sizeLine; decide), fun t ht => ?_⟩
      have hDt : Dl ≠ t := ne_of_none hq ht
      have s3 : Same H2 (upd H2 t (.tup [.int (i : Int), .int ((i : Int) + 1 + (k : Int))])) := same_new ht
      refine ⟨qs.map V.ref, s3 _ _ hq, by rw [List.length_map]; exact small1000 (by omega), qs ++ [t], (s2.trans s3).putK hD, by rw [upd_same, List.map_append]; rfl, ?_⟩
      rw [List.range_succ, List.map_append]
      refine Prs.snoc (Paired.mapP pq fun r' e' h' => ?_) ?_
      · rw [upd_ne (ne_of (s3 _ _ h') (s3 _ _ hq) (by intro z; cases z))]
        exact s3 _ _ h'
      · rw [upd_ne hDt.symm, upd_same]
        show some (HO.tup [V.int (i : Int), V.int ((i : Int) + 1 + (k : Int))]) = some (HO.tup [V.int (i : Int), V.int ((i + 1 + k : Nat) : Int)])
        rw [show ((i + 1 + k : Nat) : Int) = (i : Int) + 1 + (k : Int) by omega]
    · rintro H2 ⟨qs, s2, hq, pq⟩
      rw [eN] at pq
      have ql := pq.len
      rw [List.length_map, List.length_range] at ql
      refine ⟨fo, Dl, _, _, rfl, rfl, s2 _ _ hf, hq, by rw [List.length_map, List.length_map]; exact le1000 (by omega), fun m hm => ?_⟩
      have s3 : Same H2 (upd H2 m (.lst (rs.map V.ref ++ qs.map V.ref))) := same_new hm
      refine ⟨_, _, m, rs ++ qs, rfl, (sH.trans s2).trans s3, (sH.trans s2).free hm, by rw [upd_same, List.map_append], ?_⟩
      rw [pairsU_succ]
      exact ((pr.same s2).append pq).same s3
  · rintro σ H' ⟨v2, v3, fo, rs, rfl, sH, hfo, hf, pr⟩
    exact ⟨.ref fo, rfl, q H' fo rs sH hfo hf pr⟩

theorem sc_law_stir : FnScope ["cell", "k", "number"] ["cell", "k"] (defScope s_law_stir) := ⟨rfl, rfl, rfl, by decide +kernel, rfl, by decide +kernel, by decide +kernel⟩
def spStir : Sp := fun vs H Q _ => ∃ c k : Int, vs = [.int c, .int k] ∧ 0 ≤ k ∧ k ≤ 100 ∧ ∀ r : Int, Q (.int r) H
theorem c_law_stir (D : DefAt K mg "_law_stir" s_law_stir) : Cal P w K mg base 1 "_law_stir" spStir [] := by
  refine cal_of D sc_law_stir (fun _ _ _ _ _ _ us hl => match us, hl with | [_, _], _ => rfl) (fun vs H Q E h => ?_) (fun f cdv A outer s H vs Q E hr h => ?_)
  · obtain ⟨c, k, rfl, _⟩ := h; rfl
  obtain ⟨c, k, rfl, k0, k1, q⟩ := h
  have nd := sc_law_stir.nd
  refine ⟨_, pss_cons (ps_set (i := 2) nd rfl (.inl rfl) (pe_op op_mod (pe_op op_mul (pe_op op_add (pe_op op_add (pe_op op_mod (pv 0) pe_int) (pe_op op_mul pe_int (pv 1))) pe_int) pe_int) pe_int))
    (pss_cons (ps_set (i := 2) nd rfl (.inl rfl) (pe_op op_mod (pe_op op_mul (pv 2) (pv 2)) pe_int))
    (pss_cons (ps_set (i := 2) nd rfl (.inl rfl) (pe_op op_mod (pe_op op_mul (pe_op op_add (pv 2) (pe_op op_mul pe_int (pe_op op_add (pv 1) pe_int))) pe_int) pe_int))
    (pss_one (ps_ret (pe_op op_fdiv (pv 2) pe_int))))), ?_⟩
  have hc1 := Int.emod_nonneg c (show (2147483647 : Int) ≠ 0 by decide)
  have hc2 := Int.emod_lt_of_pos c (show (0 : Int) < 2147483647 by decide)
  refine ⟨_, rfl, _, _, rfl, rfl, (by show (0 : Int) < 2147483647; decide), ?_⟩
  refine ⟨_, rfl, _, _, rfl, rfl, .inl ⟨by decide, by decide⟩, ?_⟩
  refine ⟨_, _, rfl, rfl, _, _, rfl, rfl, _, _, rfl, rfl, .inl ⟨?_, ?_⟩, _, _, rfl, rfl, (by show (0 : Int) < 2147483647; decide), ?_⟩
  · show -(2 ^ 64) < c % 2147483647 + 977 * k + 1
    omega
  · show c % 2147483647 + 977 * k + 1 < 2 ^ 64
    omega
  generalize (c % 2147483647 + 977 * k + 1) * 48271 = z1
  have h1 := Int.emod_nonneg z1 (show (2147483647 : Int) ≠ 0 by decide)
  have h2 := Int.emod_lt_of_pos z1 (show (0 : Int) < 2147483647 by decide)
  refine ⟨_, rfl, _, rfl, _, _, rfl, rfl, .inl ⟨?_, ?_⟩, _, _, rfl, rfl, (by show (0 : Int) < 2147483629; decide), ?_⟩
  · show -(2 ^ 64) < z1 % 2147483647
    omega
  · show z1 % 2147483647 < 2 ^ 64
    omega
  have h3 := Int.emod_nonneg (z1 % 2147483647 * (z1 % 2147483647)) (show (2147483629 : Int) ≠ 0 by decide)
  have h4 := Int.emod_lt_of_pos (z1 % 2147483647 * (z1 % 2147483647)) (show (0 : Int) < 2147483629 by decide)
  refine ⟨_, rfl, _, rfl, _, _, rfl, rfl, _, _, rfl, rfl, .inl ⟨by decide, by decide⟩, _, _, rfl, rfl, _, _, rfl, rfl, .inl ⟨?_, ?_⟩, _, _, rfl, rfl, (by show (0 : Int) < 2147483647; decide), ?_⟩
  · show -(2 ^ 64) < z1 % 2147483647 * (z1 % 2147483647) % 2147483629 + 40692 * (k + 3)
    generalize z1 % 2147483647 * (z1 % 2147483647) % 2147483629 = y2 at h3 h4 ⊢
    omega
  · show z1 % 2147483647 * (z1 % 2147483647) % 2147483629 + 40692 * (k + 3) < 2 ^ 64
    generalize z1 % 2147483647 * (z1 % 2147483647) % 2147483629 = y2 at h3 h4 ⊢
    omega
  exact ⟨_, rfl, _, _, rfl, rfl, ⟨by decide, by decide⟩, q _⟩
end
end K64

set_option Elab.async false
set_option linter.all false
set_option maxRecDepth 100000
set_option maxHeartbeats 4000000
/-! the law's own defs: webs by a cell, steps -/
namespace K64
open PySem PySem.Spec PyProof.Rows L2
open C8 (Cal pe_c)
theorem pairs_nodup {n : Nat} (hn : n = 2 ∨ n = 3 ∨ n = 4) : (pairsF n).Nodup := by
  rcases hn with e | e | e <;> rw [e] <;> decide +kernel
theorem pairs_len {n : Nat} (hn : n = 2 ∨ n = 3 ∨ n = 4) : (pairsF n).length ≤ 6 := by
  rcases hn with e | e | e <;> rw [e] <;> decide +kernel
theorem Prs.stay {H H' : Hp} {a : Addr} {xs : List V} {rs : List Addr} {L : Web} (h : Prs H rs L) (ha : H a = some (.lst xs)) (k : ∀ b o, H b = some o → b ≠ a → H' b = some o) : Prs H' rs L :=
  Paired.mapP h fun _ _ e => k _ _ e (ne_of e ha (by intro z; cases z))
section
variable {P : Program} {w : World} {K : PySem.W.Frag} {mg : Str → Option Value} {base : Heap}
theorem sc_law_web_by : FnScope ["many", "cell", "ties", "k", "tie"] ["many", "cell"] (defScope s_law_web_by) := ⟨rfl, rfl, rfl, by decide +kernel, rfl, by decide +kernel, by decide +kernel⟩
def spWebBy : Sp := fun vs H Q _ => ∃ (n : Nat) (c : Int), vs = [.int (n : Int), .int c] ∧ (n = 2 ∨ n = 3 ∨ n = 4) ∧ ∀ (H' : Hp) (wa : Addr) (T : Web), Same H H' → WebAt H' wa n T → T.Sublist (pairsF n) → Q (.ref wa) H'
theorem c_law_web_by (B : Bl mg) (cP : Cal P w K mg base 1 "_law_pairs" spPairs []) (cS : Cal P w K mg base 1 "_law_stir" spStir []) (D : DefAt K mg "_law_web_by" s_law_web_by) : Cal P w K mg base 2 "_law_web_by" spWebBy [] := by
  refine cal_of D sc_law_web_by (fun _ _ _ _ _ _ us hl => match us, hl with | [_, _], _ => rfl) (fun vs H Q E h => ?_) (fun f cdv A outer s H vs Q E hr h => ?_)
  · obtain ⟨n, c, rfl, _⟩ := h; rfl
  obtain ⟨n, c, rfl, hn, q⟩ := h
  have nd := sc_law_web_by.nd
  refine ⟨_, pss_cons (ps_set (i := 2) nd rfl (.inl rfl) (pe_lst pa_nil))
    (pss_cons (ps_for PassesOwn.never rfl (pi_enum (by rfl) B.enum (pa_cons (pe_c cP hr (by decide) (by rfl) (pa_cons (pv 0) pa_nil)) pa_nil))
        (pg_tup rfl (pgs_cons (pg_name (i := 3) nd rfl (Or.inl rfl)) (pgs_cons (pg_name (i := 4) nd rfl (Or.inl rfl)) pgs_nil)))
      (pss_cons (ps_if (PW.pt (pw_and (pt_cmpR op_eq (pe_op op_mod (pv 1) pe_int) pe_int (nomark _))
            (pw_and1 (pt_cmpR op_eq (pe_op op_mod (pe_op op_shr (pe_op op_fdiv (pv 1) pe_int) (pv 3)) pe_int) pe_int (nomark _)))))
          (pss_one (ps_expr (pe_bm PySem.F.plainAttrs_list PySem.F.slot_list_append PySem.F.type_list_append mt_append (pv 2) (pa_cons (pv 4) pa_nil)))) pss_nil)
        (pss_one (ps_if (PW.pt (pw_and (pt_cmpR op_eq (pe_op op_mod (pv 1) pe_int) pe_int (nomark _))
            (pw_and1 (pt_cmpR op_lt (pe_op op_mod (pe_c cS hr (by decide) (by rfl) (pa_cons (pv 1) (pa_cons (pv 3) pa_nil))) pe_int) (pe_op op_add pe_int (pe_op op_mod (pe_op op_fdiv (pv 1) pe_int) pe_int)) (nomark _)))))
          (pss_one (ps_expr (pe_bm PySem.F.plainAttrs_list PySem.F.slot_list_append PySem.F.type_list_append mt_append (pv 2) (pa_cons (pv 4) pa_nil)))) pss_nil))))
    (pss_one (ps_ret (pe_tup (pa_cons (pv 0) (pa_cons (pe_callTy call_tuple_of (by rfl) B.tuple (by decide +kernel) (pa_cons (pv 2) pa_nil)) pa_nil)))))), ?_⟩
  refine ⟨Nat.zero_le _, fun to hto => ?_⟩
  have s0 : Same H (upd H to (.lst [])) := same_new hto
  refine ⟨_, rfl, n, rfl, by omega, fun H1 pl rs s1 npl hpl prs => ?_⟩
  have h1t : H1 to = some (.lst []) := s1 _ _ upd_same
  have hpt : pl ≠ to := (ne_of_none upd_same npl).symm
  let Kp : Hp → Prop := fun H' => ∀ b o, H1 b = some o → b ≠ to → H' b = some o
  have pl6 := pairs_len hn
  refine ⟨pl, _, rfl, SqL.of hpl, for_it walk_enum
    (fun i σ H' => ∃ (v3 v4 : Option V) (qs : List Addr) (L : Web), σ = [some (.int (n : Int)), some (.int c), some (.ref to), v3, v4] ∧ Kp H' ∧ H' to = some (.lst (qs.map V.ref)) ∧ Prs H' qs L ∧ L.Sublist ((pairsF n).take i))
    ⟨none, none, [], [], rfl, fun b o e _ => e, h1t, .nil, List.nil_sublist _⟩ (fun i σ H' _ ⟨_, _, _, _, _, k, _⟩ => SqL.of (k _ _ hpl hpt)) ?_ ?_⟩
  · rintro i x σ H' H'' hi ⟨v3, v4, qs, L, rfl, k, hq, pq, sub⟩ ⟨T, xi, y, rfl, nT, rfl, ei, hy⟩
    obtain rfl : V.int (i : Int) = xi := Option.some.inj ei
    obtain ⟨r, e, rfl, hr0, he, hre⟩ := prs.at hy
    have sT : Same H' (upd H' T (.tup [.int (i : Int), .ref r])) := same_new nT
    have hil := (List.getElem?_eq_some_iff.mp he).1
    refine ⟨T, _, rfl, SqT.of upd_same, rfl, _, _, rfl, _, _, rfl, rfl, ?_⟩
    have kT : Kp (upd H' T (.tup [.int (i : Int), .ref r])) := fun b o e ne => sT _ _ (k b o e ne)
    have hqT : (upd H' T (.tup [.int (i : Int), .ref r])) to = some (.lst (qs.map V.ref)) := sT _ _ hq
    have pqT : Prs (upd H' T (.tup [.int (i : Int), .ref r])) qs L := pq.same sT
    generalize upd H' T (.tup [.int (i : Int), .ref r]) = H2 at kT hqT pqT
    have sub1 : L.Sublist ((pairsF n).take (i + 1)) := by
      rw [take_succ' he]
      exact sub.trans (List.sublist_append_left _ _)
    have sub2 : (L ++ [e]).Sublist ((pairsF n).take (i + 1)) := by
      rw [take_succ' he]
      exact sub.append (List.Sublist.refl _)
    have ll : qs.length ≤ 6 := by
      have h1 := pq.len
      have h2 := sub.length_le
      rw [List.length_take] at h2
      omega
    have hreT : H2 r = some (.tup (prV e)) := kT _ _ hre (ne_of hre h1t (by intro z; cases z))
    have k3 : Kp (upd H2 to (.lst (qs.map V.ref ++ [.ref r]))) := fun b o e ne => by rw [upd_ne ne]; exact kT b o e ne
    have p3 : Prs (upd H2 to (.lst (qs.map V.ref ++ [.ref r]))) (qs ++ [r]) (L ++ [e]) := by
      refine Prs.snoc (pqT.stay hqT fun b o e ne => by rw [upd_ne ne]; exact e) ?_
      rw [upd_ne (ne_of hreT hqT (by intro z; cases z))]
      exact hreT
    have h2c : c % 2 = 0 ∨ c % 2 = 1 := by omega
    rcases h2c with hc | hc
    · refine ⟨_, rfl, _, _, rfl, rfl, (by show (0 : Int) < 2; decide), rfl, _, rfl, ?_⟩
      have t1 : decide (V.int (c % 2) = V.int 0) = true := decide_eq_true (by rw [hc])
      show if decide (V.int (c % 2) = V.int 0) = true then _ else _
      rw [t1]
      refine iteT ?_
      refine ⟨_, rfl, _, _, rfl, rfl, ⟨by decide, by decide⟩, _, rfl, _, _, rfl, rfl, (by show (0 : Int) ≤ (i : Int); omega), _, _, rfl, rfl, (by show (0 : Int) < 2; decide), rfl, _, rfl, ite2 (fun _ => ?_) (fun _ => ?_)⟩
      · refine ⟨_, rfl, .inl ⟨rfl, _, SqL.of hqT⟩, _, rfl, to, _, _, rfl, rfl, hqT, by rw [List.length_map]; exact small1000 (by omega), ?_⟩
        refine ⟨_, rfl, _, _, rfl, rfl, (by show (0 : Int) < 2; decide), rfl, _, rfl, ?_⟩
        have t2 : decide (V.int (c % 2) = V.int 1) = false := decide_eq_false fun z => by have := V.int.inj z; omega
        show if decide (V.int (c % 2) = V.int 1) = true then _ else _
        rw [t2]
        exact iteF (iteF ⟨_, _, qs ++ [r], L ++ [e], rfl, k3, by rw [upd_same, List.map_append]; rfl, p3, sub2⟩)
      · refine ⟨_, rfl, _, _, rfl, rfl, (by show (0 : Int) < 2; decide), rfl, _, rfl, ?_⟩
        have t2 : decide (V.int (c % 2) = V.int 1) = false := decide_eq_false fun z => by have := V.int.inj z; omega
        show if decide (V.int (c % 2) = V.int 1) = true then _ else _
        rw [t2]
        exact iteF (iteF ⟨_, _, qs, L, rfl, kT, hqT, pqT, sub1⟩)
    · refine ⟨_, rfl, _, _, rfl, rfl, (by show (0 : Int) < 2; decide), rfl, _, rfl, ?_⟩
      have t1 : decide (V.int (c % 2) = V.int 0) = false := decide_eq_false fun z => by have := V.int.inj z; omega
      show if decide (V.int (c % 2) = V.int 0) = true then _ else _
      rw [t1]
      refine iteF (iteF ?_)
      refine ⟨_, rfl, _, _, rfl, rfl, (by show (0 : Int) < 2; decide), rfl, _, rfl, ?_⟩
      have t2 : decide (V.int (c % 2) = V.int 1) = true := decide_eq_true (by rw [hc])
      show if decide (V.int (c % 2) = V.int 1) = true then _ else _
      rw [t2]
      refine iteT ?_
      refine ⟨_, rfl, _, rfl, c, (i : Int), rfl, by omega, by omega, fun rn => ?_⟩
      refine ⟨_, _, rfl, rfl, (by show (0 : Int) < 5; decide), _, rfl, _, _, rfl, rfl, ⟨by decide, by decide⟩, _, _, rfl, rfl, (by show (0 : Int) < 2; decide), _, _, rfl, rfl, _, _, rfl, rfl, _, rfl, ite2 (fun _ => ?_) (fun _ => ?_)⟩
      · exact ⟨_, rfl, .inl ⟨rfl, _, SqL.of hqT⟩, _, rfl, to, _, _, rfl, rfl, hqT, by rw [List.length_map]; exact small1000 (by omega), _, _, qs ++ [r], L ++ [e], rfl, k3, by rw [upd_same, List.map_append]; rfl, p3, sub2⟩
      · exact ⟨_, _, qs, L, rfl, kT, hqT, pqT, sub1⟩
  · rintro σ H' ⟨v3, v4, qs, L, rfl, k, hq, pq, sub⟩
    refine ⟨_, rfl, _, rfl, to, _, rfl, .inl ⟨SqL.of hq, fun t ht => ?_⟩⟩
    have s2 : Same H' (upd H' t (.tup (qs.map V.ref))) := same_new ht
    refine ⟨(by show 2 ≤ sizeLine; decide), fun wa hwa => ?_⟩
    have s3 : Same (upd H' t (.tup (qs.map V.ref))) (upd (upd H' t (.tup (qs.map V.ref))) wa (.tup [.int (n : Int), .ref t])) := same_new hwa
    refine q _ wa L (fun b o e => s3 _ _ (s2 _ _ (k _ _ (s1 _ _ (s0 _ _ e)) (ne_of_none e hto)))) ⟨t, qs, upd_same, s3 _ _ upd_same, (pq.same s2).same s3⟩ ?_
    refine sub.trans (List.take_sublist _ _)

theorem sc_law_joined_by : FnScope ["many", "cell", "ties", "k", "tie", "other"] ["many", "cell"] (defScope s_law_joined_by) := ⟨rfl, rfl, rfl, by decide +kernel, rfl, by decide +kernel, by decide +kernel⟩
def spJoined : Sp := fun vs H Q _ => ∃ (n : Nat) (c : Int), vs = [.int (n : Int), .int c] ∧ (n = 2 ∨ n = 3 ∨ n = 4) ∧ ∀ (H' : Hp) (wa : Addr) (T : Web), Same H H' → WebAt H' wa n T → GW n T → Q (.ref wa) H'
theorem c_law_joined_by (B : Bl mg) (cW : Cal P w K mg base 2 "_law_web_by" spWebBy []) (cS : Cal P w K mg base 1 "_law_stir" spStir []) (D : DefAt K mg "_law_joined_by" s_law_joined_by) : Cal P w K mg base 3 "_law_joined_by" spJoined [] := by
  refine cal_of D sc_law_joined_by (fun _ _ _ _ _ _ us hl => match us, hl with | [_, _], _ => rfl) (fun vs H Q E h => ?_) (fun f cdv A outer s H vs Q E hr h => ?_)
  · obtain ⟨n, c, rfl, _⟩ := h; rfl
  obtain ⟨n, c, rfl, hn, q⟩ := h
  have nd := sc_law_joined_by.nd
  refine ⟨_, pss_cons (ps_set (i := 2) nd rfl (.inl rfl) (pe_callTy call_list_of (by rfl) B.list (by decide +kernel) (pa_cons (pe_ix ix_tup (pe_c cW hr (by decide) (by rfl) (pa_cons (pv 0) (pa_cons (pv 1) pa_nil))) pe_int (fun _ _ => rfl)) pa_nil)))
    (pss_cons (ps_for PassesOwn.never rfl (pi_range2 (by rfl) B.range (pa_cons pe_int (pa_cons (pv 0) pa_nil))) (pg_name (i := 3) nd rfl (.inr rfl))
      (pss_cons (ps_set (i := 4) nd rfl (.inl rfl) (pe_tup (pa_cons (pe_op op_mod (pe_c cS hr (by decide) (by rfl) (pa_cons (pv 1) (pa_cons (pe_op op_add pe_int (pv 3)) pa_nil))) (pv 3)) (pa_cons (pv 3) pa_nil))))
        (pss_one (ps_if (pt_cmpR op_eq (pe_callB call_len_seq (by rfl) B.len PySem.boot_len (pa_cons
            (pe_lc (own := [("other", 5)]) (g := gName 5) (by rfl) nd (pi_list (pv 2)) (blkOk_by (N := ["many", "cell", "ties", "k", "tie", "other"]) (sc := defScope s_law_joined_by) (by decide +kernel))
              (fun _ _ _ _ _ => pg_name (i := 5) nd rfl (Or.inl rfl)) (fun _ _ _ _ _ => pts_one (pt_cmpR op_eq (pe_ix (r := rIxT K) ix_tup (pv 5) pe_int (fun _ _ => rfl)) (pv 3) (nomark _))) (fun _ _ _ _ _ => pv 5)) pa_nil)) pe_int (nomark _))
          (pss_one (ps_expr (pe_bm PySem.F.plainAttrs_list PySem.F.slot_list_append PySem.F.type_list_append mt_append (pv 2) (pa_cons (pv 4) pa_nil)))) pss_nil))))
    (pss_one (ps_ret (pe_tup (pa_cons (pv 0) (pa_cons (pe_callTy call_tuple_of (by rfl) B.tuple (by decide +kernel) (pa_cons (pe_callB cr_sortedTT (by rfl) B.sorted (by decide +kernel) (pa_cons (pv 2) pa_nil)) pa_nil)) pa_nil)))))), ?_⟩
  refine ⟨_, rfl, _, rfl, n, c, rfl, hn, fun H1 wa T0 s1 hW sub => ?_⟩
  obtain ⟨t, rs, w1, w2, w3⟩ := hW
  refine ⟨wa, _, 1, _, rfl, rfl, SqT.of w1, rfl, t, _, rfl, .inr (SqT.of w2), fun tl htl => ?_⟩
  have htl0 : H tl = none := s1.free htl
  have s2 : Same H1 (upd H1 tl (.lst (rs.map V.ref))) := same_new htl
  have pl6 := pairs_len hn
  have nd0 : T0.Nodup := sub.nodup (pairs_nodup hn)
  have m0 : ∀ e ∈ T0, e ∈ pairsF n := fun e he => sub.subset he
  have len0 : T0.length ≤ 6 := Nat.le_trans sub.length_le pl6
  have eN : ((n : Int) - 1).toNat = n - 1 := by omega
  refine ⟨_, rfl, _, _, rfl, ⟨by omega, by omega, by omega, by omega⟩, for_range (lo := 1) (n := ((n : Int) - 1).toNat)
    (fun i σ H' => ∃ (v3 v4 v5 : Option V) (rs : List Addr) (L : Web), σ = [some (.int (n : Int)), some (.int c), some (.ref tl), v3, v4, v5] ∧ Same H H' ∧ H' tl = some (.lst (rs.map V.ref)) ∧ Prs H' rs L ∧ L.Nodup ∧ (∀ e ∈ L, e ∈ pairsF n) ∧ L.length ≤ 6 + i ∧ ∀ k, 0 < k → k < 1 + i → ∃ e ∈ L, e.2 = k)
    ⟨none, none, none, rs, T0, rfl, s1.trans s2, upd_same, w3.same s2, nd0, m0, by omega, fun k h1 h2 => by omega⟩ ?_ ?_⟩
  · rintro i σ H' hi ⟨v3, v4, v5, rs, L, rfl, sH, hl, pr, ndL, mL, lenL, hk⟩
    have hin : i + 1 < n := by omega
    refine ⟨_, rfl, _, rfl, _, _, rfl, rfl, c, _, rfl, ?_, ?_, fun rn => ?_⟩
    · show (0 : Int) ≤ 50 + (1 + (i : Int)); omega
    · show 50 + (1 + (i : Int)) ≤ 100; omega
    refine ⟨_, rfl, _, _, rfl, rfl, (by show (0 : Int) < 1 + (i : Int); omega), _, rfl, (by show 2 ≤ sizeLine; decide), fun tp htp => ?_⟩
    have e1 : (1 : Int) + (i : Int) = ((i + 1 : Nat) : Int) := by omega
    have j0 := Int.emod_nonneg rn (show (1 : Int) + (i : Int) ≠ 0 by omega)
    have j1 := Int.emod_lt_of_pos rn (show (0 : Int) < 1 + (i : Int) by omega)
    obtain ⟨j, hj⟩ : ∃ j : Nat, rn % (1 + (i : Int)) = (j : Int) := ⟨(rn % (1 + (i : Int))).toNat, by omega⟩
    have hji : j < i + 1 := by omega
    have s3 : Same H' (upd H' tp (.tup [.int (rn % (1 + (i : Int))), .int (1 + (i : Int))])) := same_new htp
    have hte : (upd H' tp (.tup [.int (rn % (1 + (i : Int))), .int (1 + (i : Int))])) tp = some (.tup (prV (j, i + 1))) := by
      rw [upd_same, hj, e1]; rfl
    have htl3 : (upd H' tp (.tup [.int (rn % (1 + (i : Int))), .int (1 + (i : Int))])) tl = some (.lst (rs.map V.ref)) := s3 _ _ hl
    have pr3 := pr.same s3
    have sH3 := sH.trans s3
    -- the ties that lead to this place
    refine ⟨_, rfl, tl, rfl, ⟨_, SqL.of htl3⟩, fun Dl hD => ?_⟩
    generalize hH3 : upd H' tp (.tup [.int (rn % (1 + (i : Int))), .int (1 + (i : Int))]) = H3 at hte htl3 pr3 sH3 hD
    have lL := pr3.len
    refine lc_list (K := K) (a := tl) (xs := rs.map V.ref) (fun m H4 => ∃ qs : List V, Same H3 H4 ∧ H4 Dl = some (.lst qs) ∧ qs.length = ((L.take m).filter fun e => e.2 == i + 1).length)
      ⟨[], same_new hD, upd_same, rfl⟩ (fun m H4 _ ⟨_, s4, _⟩ => s4.seq (SqL.of htl3)) ?_ ?_
    · rintro m x H4 hm ⟨qs, s4, hq, ql⟩
      obtain ⟨r, e, rfl, hr0, he, hre⟩ := pr3.at hm
      have hre4 : H4 r = some (.tup (prV e)) := s4 _ _ hre
      refine ⟨rfl, _, rfl, r, _, 1, _, rfl, rfl, SqT.of hre4, rfl, _, rfl, rfl, _, rfl, ?_⟩
      rw [take_succ' he, List.filter_append, List.length_append]
      have ql2 : qs.length ≤ 20 := by
        have h1 := List.length_filter_le (fun e : Nat × Nat => e.2 == i + 1) (L.take m)
        rw [List.length_take] at h1
        omega
      show if decide (V.int (e.2 : Int) = V.int (1 + (i : Int))) = true then _ else _
      refine ite2 (fun cc => ?_) (fun cc => ?_)
      · have c1 : e.2 = i + 1 := by
          have := V.int.inj (of_decide_eq_true cc)
          omega
        refine ⟨_, rfl, qs, hq, small1000 (by omega), qs ++ [.ref r], s4.putK hD, upd_same, ?_⟩
        have e2 : ([e].filter fun e => e.2 == i + 1) = [e] := by simp [c1]
        rw [e2, List.length_append, ql]; rfl
      · have c1 : e.2 ≠ i + 1 := fun z => cc (decide_eq_true (by rw [z, e1]))
        have e2 : ([e].filter fun e => e.2 == i + 1) = [] := by simp [c1]
        rw [e2]
        exact ⟨qs, s4, hq, ql⟩
    · rintro H4 ⟨qs, s4, hq, ql⟩
      rw [List.length_map, lL, List.take_of_length_le (Nat.le_refl _)] at ql
      have htl4 : H4 tl = some (.lst (rs.map V.ref)) := s4 _ _ htl3
      refine ⟨Dl, _, rfl, .inl (SqL.of hq), rfl, _, rfl, ?_⟩
      show if decide (V.int ((qs.length : Nat) : Int) = V.int 0) = true then _ else _
      refine ite2 (fun cc => ?_) (fun cc => ?_)
      · have c0 : qs.length = 0 := by
          have := V.int.inj (of_decide_eq_true cc)
          omega
        have no : ∀ e ∈ L, e.2 ≠ i + 1 := fun e he z => by
          have hm : e ∈ L.filter fun e => e.2 == i + 1 := List.mem_filter.mpr ⟨he, by rw [z]; exact beq_self_eq_true _⟩
          have := List.length_pos_of_mem hm
          omega
        refine ⟨_, rfl, .inl ⟨rfl, _, SqL.of htl4⟩, _, rfl, tl, _, _, rfl, rfl, htl4, by rw [List.length_map]; exact small1000 (by omega), ?_⟩
        have hte4 : H4 tp = some (.tup (prV (j, i + 1))) := s4 _ _ hte
        refine ⟨_, _, _, rs ++ [tp], L ++ [(j, i + 1)], rfl, (sH3.trans s4).putK htl0, by rw [upd_same, List.map_append]; rfl, ?_, nd_snoc ndL fun z => no _ z rfl, fun e he => ?_, by rw [List.length_append]; show L.length + 1 ≤ _; omega, fun k h1 h2 => ?_⟩
        · refine Prs.snoc ((pr3.same s4).stay htl4 fun b o e ne => by rw [upd_ne ne]; exact e) ?_
          rw [upd_ne (ne_of hte4 htl4 (by intro z; cases z))]
          exact hte4
        · rcases List.mem_append.mp he with he | he
          · exact mL e he
          · rw [List.mem_singleton.mp he]
            exact mem_pairs.mpr ⟨hji, hin⟩
        · by_cases ek : k = i + 1
          · exact ⟨(j, i + 1), List.mem_append_right _ (List.mem_singleton.mpr rfl), ek.symm⟩
          · obtain ⟨e, he, e2⟩ := hk k h1 (by omega)
            exact ⟨e, List.mem_append_left _ he, e2⟩
      · have c0 : 0 < qs.length := by
          by_cases z : qs.length = 0
          · exact absurd (decide_eq_true (by rw [z]; rfl)) cc
          · omega
        refine ⟨_, _, _, rs, L, rfl, sH3.trans s4, htl4, pr3.same s4, ndL, mL, by omega, fun k h1 h2 => ?_⟩
        by_cases ek : k = i + 1
        · rw [ql] at c0
          obtain ⟨e, he⟩ := List.exists_mem_of_length_pos c0
          obtain ⟨h3, h4⟩ := List.mem_filter.mp he
          exact ⟨e, h3, by rw [ek]; exact beq_iff_eq.mp h4⟩
        · exact hk k h1 (by omega)
  · rintro σ H' ⟨v3, v4, v5, rs, L, rfl, sH, hl, pr, ndL, mL, lenL, hk⟩
    rw [eN] at hk lenL
    refine ⟨_, rfl, _, rfl, ?_⟩
    dsimp only [tNil]
    refine sort_prs (.inl hl) pr ndL (fun e he => ?_) fun H2 p rs' L' s3 np hp pr' perm srt => ?_
    · obtain ⟨h1, h2⟩ := mem_pairs.mp (mL e he)
      omega
    · refine ⟨p, _, rfl, .inl ⟨SqL.of hp, fun tt htt => ?_⟩⟩
      have s4 : Same H2 (upd H2 tt (.tup (rs'.map V.ref))) := same_new htt
      refine ⟨(by show 2 ≤ sizeLine; decide), fun wa hwa => ?_⟩
      have s5 : Same (upd H2 tt (.tup (rs'.map V.ref))) (upd (upd H2 tt (.tup (rs'.map V.ref))) wa (.tup [.int (n : Int), .ref tt])) := same_new hwa
      refine q _ wa L' (((sH.trans s3).trans s4).trans s5) ⟨tt, rs', upd_same, s5 _ _ upd_same, (pr'.same s4).same s5⟩ (gw_of hn srt (fun e he => mL e (perm.mem_iff.mp he)) fun k h1 h2 => ?_)
      obtain ⟨e, he, e2⟩ := hk k h1 (by omega)
      exact ⟨e, perm.mem_iff.mpr he, e2⟩
end
end K64

set_option Elab.async false
set_option linter.all false
set_option maxRecDepth 100000
set_option maxHeartbeats 4000000
/-! the law's own steps; heaps as data -/
namespace K64
open PySem PySem.Spec PyProof.Rows L2
open C8 (Cal pe_c)
/-! ### tuples of ints as data -/
def tD (h : List Int) : PyData := .tuple (h.map .int)
theorem ints_lay : ∀ h : List Int, PyData.canLayAll0 (h.map PyData.int) = true
  | [] => by simp [PyData.canLayAll0]
  | x :: h => by simp [PyData.canLayAll0, PyData.canLay0, ints_lay h]
theorem ints_depth : ∀ h : List Int, PyData.depthAll (h.map PyData.int) ≤ 1
  | [] => by simp [PyData.depthAll]
  | x :: h => by
    have := ints_depth h
    simp only [List.map_cons, PyData.depthAll, PyData.depth]
    omega
theorem tD_lay (h : List Int) : (tD h).canLay0 = true := by
  unfold tD
  simp only [PyData.canLay0]
  exact ints_lay h
theorem tD_depth (h : List Int) : (tD h).depth ≤ 2 := by
  unfold tD
  have := ints_depth h
  simp only [PyData.depth]
  omega
theorem tD_shaped (h : List Int) : SeqAt.shaped (tD h) = true := by
  have := tD_depth h
  show ((tD h).canLay0 && decide ((tD h).depth ≤ 64)) = true
  rw [Bool.and_eq_true]
  exact ⟨tD_lay h, decide_eq_true (by omega)⟩
theorem tDs_lay : ∀ L : List (List Int), PyData.canLayAll0 (L.map tD) = true
  | [] => by simp [PyData.canLayAll0]
  | h :: L => by simp [PyData.canLayAll0, tD_lay h, tDs_lay L]
theorem tDs_depth : ∀ L : List (List Int), PyData.depthAll (L.map tD) ≤ 2
  | [] => by simp [PyData.depthAll]
  | h :: L => by
    have h1 := tDs_depth L
    have h2 := tD_depth h
    simp only [List.map_cons, PyData.depthAll]
    omega
theorem tDs_list (L : List (List Int)) : SeqAt.shaped (.list (L.map tD)) = true := by
  have h1 := tDs_depth L
  have h2 : PyData.depth (.list (L.map tD)) ≤ 64 := by
    simp only [PyData.depth]
    omega
  show (PyData.canLay0 (.list (L.map tD)) && decide (PyData.depth (.list (L.map tD)) ≤ 64)) = true
  rw [Bool.and_eq_true]
  exact ⟨by simp only [PyData.canLay0]; exact tDs_lay L, decide_eq_true h2⟩
theorem tDs_tuple (L : List (List Int)) : SeqAt.shaped (.tuple (L.map tD)) = true := by
  have h1 := tDs_depth L
  have h2 : PyData.depth (.tuple (L.map tD)) ≤ 64 := by
    simp only [PyData.depth]
    omega
  show (PyData.canLay0 (.tuple (L.map tD)) && decide (PyData.depth (.tuple (L.map tD)) ≤ 64)) = true
  rw [Bool.and_eq_true]
  exact ⟨by simp only [PyData.canLay0]; exact tDs_lay L, decide_eq_true h2⟩
theorem ints_eqv : ∀ a b : List Int, PyData.eqvAll (a.map PyData.int) (b.map PyData.int) = decide (a = b)
  | [], [] => by simp [PyData.eqvAll]
  | [], _ :: _ => by simp [PyData.eqvAll]
  | _ :: _, [] => by simp [PyData.eqvAll]
  | x :: a, y :: b => by
    have ih := ints_eqv a b
    simp only [List.map_cons, PyData.eqvAll, PyData.eqv, ih]
    by_cases h1 : x = y
    · by_cases h2 : a = b
      · simp [h1, h2]
      · simp [h1, h2]
    · simp [h1]
theorem tD_eqv (a b : List Int) : PyData.eqv (tD a) (tD b) = decide (a = b) := by
  unfold tD
  simp only [PyData.eqv]
  exact ints_eqv a b
theorem tDs_any (L : List (List Int)) (x : List Int) : ((L.map tD).any fun z => PyData.eqv z (tD x)) = decide (x ∈ L) := by
  rw [List.any_map]
  induction L with
  | nil => rfl
  | cons y r ih =>
    rw [List.any_cons, ih]
    show (PyData.eqv (tD y) (tD x) || decide (x ∈ r)) = decide (x ∈ y :: r)
    rw [tD_eqv, ← Bool.decide_or]
    exact decide_eq_decide.mpr ⟨fun h => h.elim (fun e => by rw [e]; exact List.mem_cons_self) (List.mem_cons_of_mem _), fun h => (List.mem_cons.mp h).imp (fun e => e.symm) id⟩
section
variable {K : PySem.W.Frag} {H : Hp}
theorem dp_ints : ∀ h : List Int, DpAll K H (h.map V.int) (h.map PyData.int)
  | [] => .nil
  | x :: h => .cons (.int x) (dp_ints h)
theorem dp_tup {a : Addr} {h : List Int} (e : HAt H a h) : Dp K H (.ref a) (tD h) := .tup (SqT.of e) (dp_ints h)
theorem dp_refs : ∀ {l : List (Addr × List Int)}, (∀ q ∈ l, HAt H q.1 q.2) → DpAll K H (l.map fun q => V.ref q.1) ((l.map Prod.snd).map tD)
  | [], _ => .nil
  | q :: l, h => .cons (dp_tup (h q List.mem_cons_self)) (dp_refs fun x hx => h x (List.mem_cons_of_mem _ hx))
/-- a pair of places, as ints -/
def pI (e : Nat × Nat) : List Int := [(e.1 : Int), (e.2 : Int)]
theorem pI_inj {a b : Nat × Nat} (h : pI a = pI b) : a = b := by
  unfold pI at h
  injection h with h1 h2
  injection h2 with h2 h3
  exact Prod.ext (by omega) (by omega)
theorem pI_mem {e : Nat × Nat} {T : Web} : pI e ∈ T.map pI ↔ e ∈ T := by
  constructor
  · intro h
    obtain ⟨x, hx, e1⟩ := List.mem_map.mp h
    rw [← pI_inj e1]; exact hx
  · intro h
    exact List.mem_map.mpr ⟨e, h, rfl⟩
theorem dp_prs : ∀ {rs : List Addr} {L : Web}, Prs H rs L → DpAll K H (rs.map V.ref) ((L.map pI).map tD)
  | _, _, .nil => .nil
  | _, _, .cons h t => .cons (dp_tup (h := pI _) h) (dp_prs t)
end
section
variable {P : Program} {w : World} {K : PySem.W.Frag} {mg : Str → Option Value} {base : Heap}
theorem sc_law_moved : FnScope ["heap", "step", "found"] ["heap", "step"] (defScope s_law_moved) := ⟨rfl, rfl, rfl, by decide +kernel, rfl, by decide +kernel, by decide +kernel⟩
theorem c_law_moved (B : Bl mg) (D : DefAt K mg "_law_moved" s_law_moved) : Cal P w K mg base 1 "_law_moved" spDone [] := by
  refine cal_of D sc_law_moved (fun _ _ _ _ _ _ us hl => match us, hl with | [_, _], _ => rfl) (fun vs H Q E h => ?_) (fun f cdv A outer s H vs Q E hr h => ?_)
  · obtain ⟨ha, sa, h, e, rfl, _⟩ := h; rfl
  obtain ⟨ha, sa, h, e, rfl, hh, hs, h1, h2, q⟩ := h
  have nd := sc_law_moved.nd
  refine ⟨_, pss_cons (ps_set (i := 2) nd rfl (.inl rfl) (pe_callTy call_list_of (by rfl) B.list (by decide +kernel) (pa_cons (pv 0) pa_nil)))
    (pss_cons (ps_asg (pe_op op_sub (pe_ix ix_list (pv 2) (pe_ix ix_tup (pv 1) pe_int (fun _ _ => rfl)) (fun _ _ => rfl)) pe_int) (pg_sub (pv 2) (pe_ix ix_tup (pv 1) pe_int (fun _ _ => rfl)) set_list))
    (pss_cons (ps_asg (pe_op op_add (pe_ix ix_list (pv 2) (pe_ix ix_tup (pv 1) pe_int (fun _ _ => rfl)) (fun _ _ => rfl)) pe_int) (pg_sub (pv 2) (pe_ix ix_tup (pv 1) pe_int (fun _ _ => rfl)) set_list))
    (pss_one (ps_ret (pe_callTy call_tuple_of (by rfl) B.tuple (by decide +kernel) (pa_cons (pv 2) pa_nil)))))), ?_⟩
  refine ⟨_, rfl, ha, _, rfl, .inr (SqT.of hh), fun l hl => ?_⟩
  have ht : ∀ o, SqT K (upd H l o) sa (prV e) := fun o => SqT.of (same_new hl _ _ hs)
  refine ⟨_, rfl, _, rfl, sa, _, 0, _, rfl, rfl, ht _, rfl, l, _, (e.1 : Int), _, rfl, rfl, SqL.of upd_same, g_at h1, _, _, rfl, rfl, _, rfl, _, rfl, sa, _, 0, _, rfl, rfl, ht _, rfl, l, _, _, e.1, rfl, rfl, upd_same, ?_, ?_⟩
  · rw [List.length_map]; exact ixN_of h1
  have l1 : (h.set e.1 (g h e.1 - 2)).length = h.length := List.length_set
  dsimp only
  rw [set_map, upd_upd]
  refine ⟨_, rfl, _, rfl, sa, _, 1, _, rfl, rfl, ht _, rfl, l, _, (e.2 : Int), _, rfl, rfl, SqL.of upd_same, g_at (by rw [l1]; exact h2), _, _, rfl, rfl, _, rfl, _, rfl, sa, _, 1, _, rfl, rfl, ht _, rfl, l, _, _, e.2, rfl, rfl, upd_same, ?_, ?_⟩
  · rw [List.length_map, l1]; exact ixN_of h2
  dsimp only
  rw [set_map, upd_upd]
  refine ⟨_, rfl, l, _, rfl, .inl ⟨SqL.of upd_same, fun p hp => ?_⟩⟩
  have s1 : Same H (upd H l (.lst ((doneF h e.1 e.2).map V.int))) := same_new hl
  exact q _ p (s1.newK hp) (s1.free hp) upd_same

theorem sc_law_may : FnScope ["web", "heap", "found", "a", "b"] ["web", "heap"] (defScope s_law_may) := ⟨rfl, rfl, rfl, by decide +kernel, rfl, by decide +kernel, by decide +kernel⟩
def spLMay : Sp := fun vs H Q _ => ∃ (wa ha : Addr) (n : Nat) (T : Web) (h : List Int), vs = [.ref wa, .ref ha] ∧ WebAt H wa n T ∧ Ok n T ∧ HAt H ha h ∧ h.length = n ∧
  ∀ (H' : Hp) (p : Addr) (rs : List Addr) (L : Web), Same H H' → H p = none → H' p = some (.lst (rs.map V.ref)) → Prs H' rs L → (∀ e ∈ L, Adj T e.1 e.2 ∧ 2 ≤ g h e.1) → Q (.ref p) H'
theorem c_law_may (B : Bl mg) (D : DefAt K mg "_law_may" s_law_may) : Cal P w K mg base 1 "_law_may" spLMay [] := by
  refine cal_of D sc_law_may (fun _ _ _ _ _ _ us hl => match us, hl with | [_, _], _ => rfl) (fun vs H Q E h => ?_) (fun f cdv A outer s H vs Q E hr h => ?_)
  · obtain ⟨wa, ha, n, T, h, rfl, _⟩ := h; rfl
  obtain ⟨wa, ha, n, T, h, rfl, ⟨t, rs, w1, w2, w3⟩, ok, hh, hn, q⟩ := h
  have nd := sc_law_may.nd
  refine ⟨_, pss_cons (ps_set (i := 2) nd rfl (.inl rfl) (pe_lst pa_nil))
    (pss_cons (ps_for PassesOwn.never rfl (pi_tup (pe_ix ix_tup (pv 0) pe_int (fun _ _ => rfl))) (pg_tup rfl (pgs_cons (pg_name (i := 3) nd rfl (Or.inl rfl)) (pgs_cons (pg_name (i := 4) nd rfl (Or.inl rfl)) pgs_nil)))
      (pss_cons (ps_if (pt_cmpR op_gt (pe_ix ix_tup (pv 1) (pv 3) (fun _ _ => rfl)) pe_int (nomark _))
          (pss_one (ps_expr (pe_bm PySem.F.plainAttrs_list PySem.F.slot_list_append PySem.F.type_list_append mt_append (pv 2) (pa_cons (pe_tup (pa_cons (pv 3) (pa_cons (pv 4) pa_nil))) pa_nil)))) pss_nil)
        (pss_one (ps_if (pt_cmpR op_gt (pe_ix ix_tup (pv 1) (pv 4) (fun _ _ => rfl)) pe_int (nomark _))
          (pss_one (ps_expr (pe_bm PySem.F.plainAttrs_list PySem.F.slot_list_append PySem.F.type_list_append mt_append (pv 2) (pa_cons (pe_tup (pa_cons (pv 4) (pa_cons (pv 3) pa_nil))) pa_nil)))) pss_nil))))
    (pss_one (ps_ret (pe_callB cr_sortedP (by rfl) B.sorted (by decide +kernel) (pa_cons (pv 2) pa_nil))))), ?_⟩
  refine ⟨Nat.zero_le _, fun fo hfo => ?_⟩
  have s1 : Same H (upd H fo (.lst [])) := same_new hfo
  have hA : SqT K H wa [.int (n : Int), .ref t] := SqT.of w1
  have hT : SqT K H t (rs.map V.ref) := SqT.of w2
  have n6 := ok.len
  let St' : Hp → Prop := fun H' => Same H H' ∧ ∃ (qs : List Addr) (L : Web), H' fo = some (.lst (qs.map V.ref)) ∧ Prs H' qs L ∧ ∀ e ∈ L, Adj T e.1 e.2 ∧ 2 ≤ g h e.1
  -- one append
  have app : ∀ (H1 : Hp) (qs : List Addr) (L : Web) (e : Nat × Nat) (k : Nat), Same H H1 → H1 fo = some (.lst (qs.map V.ref)) → Prs H1 qs L → (∀ e ∈ L, Adj T e.1 e.2 ∧ 2 ≤ g h e.1) → Adj T e.1 e.2 → 2 ≤ g h e.1 → ∀ (tp : Addr), H1 tp = none →
      Same H (upd (upd H1 tp (.tup (prV e))) fo (.lst (qs.map V.ref ++ [.ref tp]))) ∧ (upd (upd H1 tp (.tup (prV e))) fo (.lst (qs.map V.ref ++ [.ref tp]))) fo = some (.lst ((qs ++ [tp]).map V.ref)) ∧
      Prs (upd (upd H1 tp (.tup (prV e))) fo (.lst (qs.map V.ref ++ [.ref tp]))) (qs ++ [tp]) (L ++ [e]) ∧ ∀ e' ∈ L ++ [e], Adj T e'.1 e'.2 ∧ 2 ≤ g h e'.1 := fun H1 qs L e _ sH hq pq hall ad h2 tp htp => by
    have s3 : Same H1 (upd H1 tp (.tup (prV e))) := same_new htp
    have hft : tp ≠ fo := (ne_of_none hq htp).symm
    refine ⟨(sH.trans s3).putK hfo, by rw [upd_same, List.map_append]; rfl, ?_, fun e' he => ?_⟩
    · refine Prs.snoc ((pq.same s3).stay (s3 _ _ hq) fun b o e ne => by rw [upd_ne ne]; exact e) ?_
      rw [upd_ne hft, upd_same]
    · rcases List.mem_append.mp he with he | he
      · exact hall e' he
      · rw [List.mem_singleton.mp he]; exact ⟨ad, h2⟩
  refine ⟨_, rfl, wa, _, 1, _, rfl, rfl, s1.sqT hA, rfl, t, rfl, ⟨_, s1.sqT hT⟩, for_tup (K := K) (a := t) (xs := rs.map V.ref)
    (fun i σ H' => ∃ (v3 v4 : Option V) (qs : List Addr) (L : Web), σ = [some (.ref wa), some (.ref ha), some (.ref fo), v3, v4] ∧ Same H H' ∧ H' fo = some (.lst (qs.map V.ref)) ∧ Prs H' qs L ∧ (∀ e ∈ L, Adj T e.1 e.2 ∧ 2 ≤ g h e.1) ∧ L.length ≤ 2 * i)
    ⟨none, none, [], [], rfl, s1, upd_same, .nil, fun e he => absurd he (by simp), Nat.le_refl _⟩ (fun i σ H' _ ⟨_, _, _, _, _, s2, _⟩ => s2.sqT hT) ?_ ?_⟩
  · rintro i x σ H' hi ⟨v3, v4, qs, L, rfl, s2, hq, pq, hall, lenL⟩
    obtain ⟨r, e, rfl, hr0, he, hre⟩ := w3.at hi
    have hil := (List.getElem?_eq_some_iff.mp he).1
    have hrH : H' r = some (.tup (prV e)) := s2 _ _ hre
    have em : e ∈ T := List.mem_of_getElem? he
    obtain ⟨a1, a2, a3⟩ := ok.wf.adj (show Adj T e.1 e.2 from .inl em)
    have lq := pq.len
    refine ⟨r, prV e, rfl, SqT.of hrH, rfl, _, _, rfl, _, _, rfl, rfl, ?_⟩
    -- the second test, from any state
    have second : ∀ (H2 : Hp) (qs : List Addr) (L : Web), Same H H2 → H2 fo = some (.lst (qs.map V.ref)) → Prs H2 qs L → (∀ e ∈ L, Adj T e.1 e.2 ∧ 2 ≤ g h e.1) → L.length ≤ 2 * i + 1 →
        (2 ≤ g h e.2 → ∀ tp, H2 tp = none → ∃ (v3 v4 : Option V) (qs' : List Addr) (L' : Web), [some (V.ref wa), some (V.ref ha), some (V.ref fo), some (V.int (e.1 : Int)), some (V.int (e.2 : Int))] = [some (.ref wa), some (.ref ha), some (.ref fo), v3, v4] ∧ Same H (upd (upd H2 tp (.tup (prV (e.2, e.1)))) fo (.lst (qs.map V.ref ++ [.ref tp]))) ∧
          (upd (upd H2 tp (.tup (prV (e.2, e.1)))) fo (.lst (qs.map V.ref ++ [.ref tp]))) fo = some (.lst (qs'.map V.ref)) ∧ Prs (upd (upd H2 tp (.tup (prV (e.2, e.1)))) fo (.lst (qs.map V.ref ++ [.ref tp]))) qs' L' ∧ (∀ e ∈ L', Adj T e.1 e.2 ∧ 2 ≤ g h e.1) ∧ L'.length ≤ 2 * (i + 1)) := fun H2 qs L sH hq pq hall ll h2 tp htp => by
      obtain ⟨b1, b2, b3, b4⟩ := app H2 qs L (e.2, e.1) 0 sH hq pq hall (.inr em) h2 tp htp
      exact ⟨_, _, _, _, rfl, b1, b2, b3, b4, by rw [List.length_append]; show L.length + 1 ≤ _; omega⟩
    refine ⟨_, rfl, _, rfl, ha, _, (e.1 : Int), _, rfl, rfl, SqT.of (s2 _ _ hh), g_at (by omega), _, _, rfl, rfl, _, rfl, ite2 (fun c => ?_) (fun c => ?_)⟩
    · have c' : 1 < g h e.1 := of_decide_eq_true c
      refine ⟨_, rfl, .inl ⟨rfl, _, SqL.of hq⟩, _, rfl, _, rfl, (by show 2 ≤ sizeLine; decide), fun tp htp => ?_⟩
      have s3 : Same H' (upd H' tp (.tup (prV (e.1, e.2)))) := same_new htp
      refine ⟨fo, _, _, rfl, rfl, s3 _ _ hq, by rw [List.length_map]; exact small1000 (by omega), ?_⟩
      obtain ⟨b1, b2, b3, b4⟩ := app H' qs L (e.1, e.2) 0 s2 hq pq hall (.inl em) (by show 2 ≤ g h e.1; omega) tp htp
      have hhh := b1 _ _ hh
      have hl3 := b3.len
      rw [List.length_append, List.length_append] at hl3
      refine ⟨_, rfl, _, rfl, ha, _, (e.2 : Int), _, rfl, rfl, SqT.of hhh, g_at (by omega), _, _, rfl, rfl, _, rfl, ite2 (fun c2 => ?_) (fun c2 => ?_)⟩
      · have c2' : 1 < g h e.2 := of_decide_eq_true c2
        refine ⟨_, rfl, .inl ⟨rfl, _, SqL.of b2⟩, _, rfl, _, rfl, (by show 2 ≤ sizeLine; decide), fun tq htq => ?_⟩
        refine ⟨fo, _, _, rfl, rfl, same_new htq _ _ b2, by rw [List.length_map, List.length_append]; exact small1000 (by show qs.length + 1 ≤ 1000; omega), ?_⟩
        exact second _ _ _ b1 b2 b3 b4 (by rw [List.length_append]; show L.length + 1 ≤ _; omega) (by omega) tq htq
      · exact ⟨_, _, _, _, rfl, b1, b2, b3, b4, by rw [List.length_append]; show L.length + 1 ≤ _; omega⟩
    · refine ⟨_, rfl, _, rfl, ha, _, (e.2 : Int), _, rfl, rfl, SqT.of (s2 _ _ hh), g_at (by omega), _, _, rfl, rfl, _, rfl, ite2 (fun c2 => ?_) (fun c2 => ?_)⟩
      · have c2' : 1 < g h e.2 := of_decide_eq_true c2
        refine ⟨_, rfl, .inl ⟨rfl, _, SqL.of hq⟩, _, rfl, _, rfl, (by show 2 ≤ sizeLine; decide), fun tq htq => ?_⟩
        refine ⟨fo, _, _, rfl, rfl, same_new htq _ _ hq, by rw [List.length_map]; exact small1000 (by omega), ?_⟩
        exact second _ _ _ s2 hq pq hall (by omega) (by omega) tq htq
      · exact ⟨_, _, qs, L, rfl, s2, hq, pq, hall, by omega⟩
  · rintro σ H' ⟨v3, v4, qs, L, rfl, s2, hq, pq, hall, lenL⟩
    refine ⟨_, rfl, fo, _, rfl, SqL.of hq, pq.refs, fun ys p perm hp => ?_⟩
    obtain ⟨rs', L', ey, pr', pL⟩ := pq.perm perm
    exact q _ p rs' L' (s2.newK hp) (s2.free hp) (by rw [upd_same, ey]) (pr'.same (same_new hp)) fun e he => hall e (pL.mem_iff.mp he)
end
end K64

set_option Elab.async false
set_option linter.all false
set_option maxRecDepth 100000
set_option maxHeartbeats 4000000
/-! the law's walk -/
namespace K64
open PySem PySem.Spec PyProof.Rows L2
open C8 (Cal pe_c pss_cut)
theorem GW.three {n : Nat} {T : Web} (h : GW n T) : n = 2 ∨ n = 3 ∨ n = 4 := by
  have h1 := h.ok.n2
  have h2 := h.ok.n4
  omega
theorem GW.link {n : Nat} {T : Web} (h : GW n T) : ∀ k, 0 < k → k < n → ∃ e ∈ T, e.2 = k := by
  intro k h0 h1
  unfold GW allW at h
  obtain ⟨n', _, h⟩ := List.mem_flatMap.mp h
  obtain ⟨T', hT, e⟩ := List.mem_map.mp h
  cases e
  have hl := (List.mem_filter.mp hT).2
  unfold linked at hl
  have := List.all_eq_true.mp hl k (List.mem_range.mpr h1)
  rw [Bool.or_eq_true] at this
  rcases this with z | z
  · have := beq_iff_eq.mp z
    omega
  · obtain ⟨e, he, q⟩ := List.any_eq_true.mp z
    exact ⟨e, he, beq_iff_eq.mp q⟩
theorem gw_more {n : Nat} {T L : Web} {e : Nat × Nat} (h : GW n T) (he : e ∈ pairsF n) (p : L.Perm (T ++ [e])) (s : L.Pairwise lexN) : GW n L := by
  refine gw_of h.three s (fun x hx => ?_) fun k h0 h1 => ?_
  · rcases List.mem_append.mp (p.mem_iff.mp hx) with z | z
    · exact h.ok.prs x z
    · rw [List.mem_singleton.mp z]; exact he
  · obtain ⟨x, hx, q⟩ := h.link k h0 h1
    exact ⟨x, p.mem_iff.mpr (List.mem_append_left _ hx), q⟩
theorem cut_head {α : Type} (f : α → V) (l : List α) (k : Nat) : cutV (l.map f) none (some (k : Int)) = (l.take (min k l.length)).map f := by
  unfold cutV
  rw [HT.sIx_none, HT.sIx_nat, List.length_map, List.drop_zero, Nat.sub_zero, List.map_take]
section
variable {P : Program} {w : World} {K : PySem.W.Frag} {mg : Str → Option Value} {base : Heap}
theorem sc_law : FnScope ["script", "cell", "many", "web", "m", "place", "due", "ties", "lacking", "more", "lesser", "heap", "k", "step", "other", "tie"] ["script"] (defScope s_law) := ⟨rfl, rfl, rfl, by decide +kernel, rfl, by decide +kernel, by decide +kernel⟩
def spLaw (K : PySem.W.Frag) : Sp := fun vs H Q _ => ∃ (a : Addr) (ns : List Int), vs = [.ref a] ∧ SqL K H a (ns.map V.int) ∧ ns.length ≤ 63 ∧ ∀ H', Q (.bl true) H'
theorem c_law {f : Addr} {fd : FuncData} (B : Bl mg) (cJ : Cal P w K mg base 3 "_law_joined_by" spJoined []) (cSt : Cal P w K mg base 1 "_law_stir" spStir []) (cNe : Cal P w K mg base 7 "need" spNeed []) (cFa : Cal P w K mg base 6 "far" spFar []) (cPr : Cal P w K mg base 1 "_law_pairs" spPairs [])
    (cFl : Cal P w K mg base 7 "fails" spFails []) (cWo : Cal P w K mg base 7 "worst" spWorst []) (cMy : Cal P w K mg base 1 "_law_may" spLMay []) (cMv : Cal P w K mg base 1 "_law_moved" spDone []) (F : FnP K "law" s_law f fd) : FnOk P w K mg base CX0 8 f fd ["script"] (spLaw K) := by
  refine fnok_of F sc_law (fun vs H Q E h => ?_) (fun cdv A outer s H vs Q E hr h => ?_)
  · obtain ⟨a, ns, rfl, _⟩ := h; rfl
  obtain ⟨sa, ns, rfl, hS, h63, q⟩ := h
  have nd := sc_law.nd
  have hu : (A.deeper (envOfC "law" (defScope s_law) s.heap.objs.size f cdv)).units + 65 < cLine := by have := hr.un; omega
  refine ⟨_, (pss_cons (ps_for PassesOwn.never rfl (pi_list (pe_op op_cat (pe_slice sl_list (pv 0) po_none (po_some pe_int)) (pe_lst (pa_cons pe_int (pa_cons pe_int pa_nil))))) (pg_name (i := 1) nd rfl (.inl rfl)) (pss_cons (ps_set (i := 2) nd rfl (.inl rfl) (pe_op op_add pe_int (pe_op op_mod (pe_op op_fdiv (pv 1) pe_int) pe_int))) (pss_cons (ps_set (i := 3) nd rfl (.inr rfl) (pe_c cJ hr (by decide) (by rfl) (pa_cons (pv 2) (pa_cons (pe_op op_fdiv (pv 1) pe_int) pa_nil)))) (pss_cons (ps_set (i := 4) nd rfl (.inl rfl) (pe_op op_add pe_int (pe_op op_mod (pe_op op_fdiv (pv 1) pe_int) pe_int))) (pss_cons (ps_set (i := 5) nd rfl (.inr rfl) (pe_op op_mod (pe_c cSt hr (by decide) (by rfl) (pa_cons (pv 1) (pa_cons pe_int pa_nil))) (pv 2))) (pss_cons (ps_set (i := 6) nd rfl (.inl rfl) (pe_c cNe hr (by decide) (by rfl) (pa_cons (pv 3) (pa_cons (pv 5) (pa_cons (pv 4) pa_nil))))) (pss_cons (ps_set (i := 7) nd rfl (.inl rfl) (pe_callB (cr_max rfl) (by rfl) B.max (by decide +kernel) (pa_cons (pe_lc (own := [("other", 14)]) (g := gName 14) (tt := tYes) (by rfl) nd (pi_range1 (by rfl) B.range (pa_cons (pv 2) pa_nil)) (blkOk_by (N := ["script", "cell", "many", "web", "m", "place", "due", "ties", "lacking", "more", "lesser", "heap", "k", "step", "other", "tie"]) (sc := defScope s_law) (by decide +kernel)) (fun _ _ _ _ _ => (pg_name (i := 14) nd rfl (.inl rfl))) (fun _ _ _ _ _ => pts_nil) (fun _ _ _ _ _ => (pe_c cFa hr (by decide) (by rfl) (pa_cons (pv 3) (pa_cons (pv 5) (pa_cons (pv 14) pa_nil)))))) pa_nil))) (pss_cons (ps_if (PW.pt (pw_or (pt_cmpR op_lt (pv 6) (pe_op op_mul (pv 4) (pe_ix ix_list (pe_lst (pa_cons pe_int (pa_cons pe_int (pa_cons pe_int (pa_cons pe_int pa_nil))))) (pv 7) (fun _ _ => rfl))) (nomark _)) (pw_or1 (pt_cmpR op_lt (pv 6) (pe_op op_sub (pe_op op_add (pv 4) (pv 2)) pe_int) (nomark _))))) (pss_one (ps_ret pe_bl)) pss_nil) (pss_cons (ps_setLc (i := 8) (own := [("tie", 15)]) (g := gName 15) (by rfl) nd rfl rfl (sw_true rfl rfl rfl (by decide +kernel)) (pi_list (pe_c cPr hr (by decide) (by rfl) (pa_cons (pv 2) pa_nil))) (blkOk_by (N := ["script", "cell", "many", "web", "m", "place", "due", "ties", "lacking", "more", "lesser", "heap", "k", "step", "other", "tie"]) (sc := defScope s_law) (by decide +kernel)) (fun _ _ _ _ _ => (pg_name (i := 15) nd rfl (.inl rfl))) (fun _ _ _ _ _ => (pts_one (pt_cmpR (r := rNotInT K) (op_notInT hu) (pv 15) (pe_ix (r := rIxT K) ix_tup (pv 3) pe_int (fun _ _ => rfl)) (by rfl)))) (fun _ _ _ _ _ => (pv 15))) (pss_cut (ps_if (pt_cmpR (op_neD hr.units) (pv 8) (pe_lst pa_nil) (nomark _)) (pss_cons (ps_set (i := 9) nd rfl (.inl rfl) (pe_callTy call_tuple_of (by rfl) B.tuple (by decide +kernel) (pa_cons (pe_callB cr_sortedTT (by rfl) B.sorted (by decide +kernel) (pa_cons (pe_op op_catA (pe_ix ix_tup (pv 3) pe_int (fun _ _ => rfl)) (pe_tup (pa_cons (pe_ix ix_list (pv 8) (pe_op op_mod (pe_c cSt hr (by decide) (by rfl) (pa_cons (pv 1) (pa_cons pe_int pa_nil))) (pe_callB call_len_seq (by rfl) B.len (by decide +kernel) (pa_cons (pv 8) pa_nil))) (fun _ _ => rfl)) pa_nil))) pa_nil)) pa_nil))) (pss_one (ps_if (pt_cmpR op_gt (pe_c cNe hr (by decide) (by rfl) (pa_cons (pe_tup (pa_cons (pv 2) (pa_cons (pv 9) pa_nil))) (pa_cons (pv 5) (pa_cons (pv 4) pa_nil)))) (pv 6) (nomark _)) (pss_one (ps_ret pe_bl)) pss_nil))) pss_nil) (pss_cons (ps_set (i := 10) nd rfl (.inl rfl) (pe_c cFl hr (by decide) (by rfl) (pa_cons (pv 3) (pa_cons (pv 5) (pa_cons (pv 4) (pa_cons (pe_op op_sub (pv 6) pe_int) pa_nil)))))) (pss_one (ps_for PassesOwn.never rfl (pi_list (pe_slice sl_list (pe_c cWo hr (by decide) (by rfl) (pa_cons (pv 3) (pa_cons (pv 5) (pa_cons (pv 4) pa_nil)))) po_none (po_some pe_int))) (pg_name (i := 11) nd rfl (.inl rfl)) (pss_cons (ps_if (PW.pt (pw_or (pt_cmpR op_ge (pe_ix ix_tup (pv 11) (pv 5) (fun _ _ => rfl)) (pv 4) (nomark _)) (pw_or1 (pt_cmpR op_ne (pe_callB (cr_sumT rfl) (by rfl) B.sum (by decide +kernel) (pa_cons (pv 11) pa_nil)) (pe_op op_sub (pv 6) pe_int) (nomark _))))) (pss_one (ps_ret pe_bl)) pss_nil) (pss_cut (ps_for PassesOwn.never rfl (pi_range1 (by rfl) B.range (pa_cons (pv 2) pa_nil)) (pg_name (i := 12) nd rfl (.inl rfl)) (pss_one (ps_if (PW.pt (pw_and (pt_cmpR op_gt (pe_ix ix_tup (pv 11) (pv 12) (fun _ _ => rfl)) pe_int (nomark _)) (pw_and1 (pt_cmpR (op_notInD hu) (pe_op op_catA (pe_op op_catA (pe_slice sl_tupA (pv 11) po_none (po_some (pv 12))) (pe_tup (pa_cons (pe_op op_sub (pe_ix ix_tup (pv 11) (pv 12) (fun _ _ => rfl)) pe_int) pa_nil))) (pe_slice sl_tupA (pv 11) (po_some (pe_op op_add (pv 12) pe_int)) po_none)) (pv 10) (by rfl))))) (pss_one (ps_ret pe_bl)) pss_nil))) (pss_one (ps_for PassesOwn.never rfl (pi_list (pe_c cMy hr (by decide) (by rfl) (pa_cons (pv 3) (pa_cons (pv 11) pa_nil)))) (pg_name (i := 13) nd rfl (.inl rfl)) (pss_one (ps_if (pt_cmpR (op_notInD hu) (pe_c cMv hr (by decide) (by rfl) (pa_cons (pv 11) (pa_cons (pv 13) pa_nil))) (pv 10) (by rfl)) (pss_one (ps_ret pe_bl)) pss_nil))))))))))))))))))) (pss_one (ps_ret pe_bl))), ?_⟩
  refine ⟨_, rfl, 3, rfl, sa, ns.map V.int, rfl, hS, fun p1 hp1 => ?_⟩
  have s1 : Same H (upd H p1 (.lst (cutV (ns.map V.int) none (some 3)))) := same_new hp1
  refine ⟨(by show 2 ≤ sizeLine; decide), fun p2 hp2 => ?_⟩
  have s2 := s1.newK (o := .lst [.int 0, .int 7]) hp2
  have hcut : cutV (ns.map V.int) none (some 3) = (ns.take (min 3 ns.length)).map V.int := cut_head V.int ns 3
  refine ⟨p1, p2, _, _, rfl, rfl, same_new hp2 _ _ upd_same, upd_same, ?_, fun p3 hp3 => ?_⟩
  · rw [hcut, List.length_map, List.length_take]
    exact le1000 (by show min (min 3 ns.length) ns.length + 2 ≤ 1000; omega)
  have s3 := s2.newK (o := .lst (cutV (ns.map V.int) none (some 3) ++ [.int 0, .int 7])) hp3
  have hcs : (upd (upd (upd H p1 (.lst (cutV (ns.map V.int) none (some 3)))) p2 (.lst [.int 0, .int 7])) p3 (.lst (cutV (ns.map V.int) none (some 3) ++ [.int 0, .int 7]))) p3 = some (.lst ((ns.take (min 3 ns.length) ++ [0, 7]).map V.int)) := by
    rw [upd_same, hcut, List.map_append]; rfl
  generalize upd (upd (upd H p1 (.lst (cutV (ns.map V.int) none (some 3)))) p2 (.lst [.int 0, .int 7])) p3 (.lst (cutV (ns.map V.int) none (some 3) ++ [.int 0, .int 7])) = H1 at s3 hcs ⊢
  generalize ns.take (min 3 ns.length) ++ [0, 7] = cs at hcs
  refine ⟨p3, rfl, ⟨_, SqL.of hcs⟩, for_list (K := K) (a := p3) (xs := cs.map V.int)
    (fun i σ H' => ∃ v1 v2 v3 v4 v5 v6 v7 v8 v9 v10 v11 v12 v13 v14 v15 : Option V, σ = [some (.ref sa), v1, v2, v3, v4, v5, v6, v7, v8, v9, v10, v11, v12, v13, v14, v15] ∧ Same H1 H')
    ⟨none, none, none, none, none, none, none, none, none, none, none, none, none, none, none, rfl, Same.refl _⟩ (fun i σ H' _ ⟨_, _, _, _, _, _, _, _, _, _, _, _, _, _, _, _, s4⟩ => s4.seq (SqL.of hcs)) ?_ ?_⟩
  · rintro i x σ H2 hi ⟨v1, v2, v3, v4, v5, v6, v7, v8, v9, v10, v11, v12, v13, v14, v15, rfl, s4⟩
    obtain ⟨c, rfl⟩ : ∃ c, x = V.int c := by
      rw [List.getElem?_map] at hi
      cases e : cs[i]? with
      | none => rw [e] at hi; cases hi
      | some c => rw [e] at hi; exact ⟨c, (Option.some.inj hi).symm⟩
    -- many
    obtain ⟨n, hn⟩ : ∃ n : Nat, 2 + c / 64 % 3 = (n : Int) := ⟨(2 + c / 64 % 3).toNat, by omega⟩
    have hn3 : n = 2 ∨ n = 3 ∨ n = 4 := by omega
    refine ⟨_, rfl, _, _, rfl, rfl, ⟨by decide, by decide⟩, _, _, rfl, rfl, (by show (0 : Int) < 3; decide), _, _, rfl, rfl, ?_⟩
    dsimp only
    rw [hn]
    -- web
    refine ⟨_, rfl, _, rfl, _, _, rfl, rfl, ⟨by decide, by decide⟩, n, _, rfl, hn3, fun H3 wa T s5 hW gw => ?_⟩
    -- m
    obtain ⟨m, hm⟩ : ∃ m : Int, 1 + c / 4 % 2 = m := ⟨_, rfl⟩
    refine ⟨_, rfl, _, _, rfl, rfl, ⟨by decide, by decide⟩, _, _, rfl, rfl, (by show (0 : Int) < 2; decide), _, _, rfl, rfl, ?_⟩
    dsimp only
    rw [hm]
    have m1 : 1 ≤ m := by omega
    have m2 : m ≤ 2 := by omega
    -- place
    refine ⟨_, rfl, c, 10, rfl, by decide, by decide, fun rn => ?_⟩
    have r0 := Int.emod_nonneg rn (show (n : Int) ≠ 0 by omega)
    have r1 := Int.emod_lt_of_pos rn (show (0 : Int) < (n : Int) by omega)
    obtain ⟨p, hp⟩ : ∃ p : Nat, rn % (n : Int) = (p : Int) := ⟨(rn % (n : Int)).toNat, by omega⟩
    have hpn : p < n := by omega
    refine ⟨_, rfl, _, _, rfl, rfl, (by show (0 : Int) < (n : Int); omega), ?_⟩
    dsimp only
    rw [hp]
    -- due
    have ask : Asked H3 wa n T p m := ⟨hW, gw, hpn, m1, m2⟩
    refine ⟨_, rfl, _, rfl, _, rfl, wa, n, T, p, m, rfl, ask, fun H4 N s6 isn => ?_⟩
    have ok := gw.ok
    have okp := gw.okP hpn
    have nall := need_all ok.wf hpn m1 m2 isn
    -- ties
    refine ⟨_, rfl, (n : Int), rfl, by omega, by omega, fun Dl hD => ?_⟩
    refine lc_range (lo := 0) (n := n) (fun k H' => Same H4 H' ∧ H' Dl = some (.lst ((List.range k).map fun i => V.int (dist n T p i : Int)))) ⟨same_new hD, upd_same⟩ ?_ ?_
    · rintro k H5 hk ⟨s7, hq⟩
      rw [Int.zero_add]
      refine ⟨rfl, ?_⟩
      dsimp only [tYes]
      rw [if_pos rfl]
      refine ⟨_, rfl, _, rfl, _, rfl, wa, n, T, p, k, rfl, (hW.same s6).same s7, gw, hpn, hk, fun H6 s8 => ?_⟩
      exact ⟨_, s8 _ _ hq, by rw [List.length_map, List.length_range]; exact small1000 (by omega), (s7.trans s8).putK hD, by rw [upd_same, List.range_succ, List.map_append]; rfl⟩
    rintro H5 ⟨s7, hq⟩
    refine ⟨Dl, (List.range n).map fun i => (dist n T p i : Int), rfl, SqL.of (by rw [hq, List.map_map]; rfl), by rw [List.length_map, List.length_range]; omega, fun mx hmx hle => ?_⟩
    obtain ⟨qm, hqm, rfl⟩ := List.mem_map.mp hmx
    rw [List.mem_range] at hqm
    have hmax : ∀ i, i < n → dist n T p i ≤ dist n T p qm := fun i hi => by
      have := hle _ (List.mem_map.mpr ⟨i, List.mem_range.mpr hi, rfl⟩)
      omega
    have nfar := need_far ok.wf hpn okp.dist m1 isn hqm hmax
    have d3 := okp.d3 qm hqm
    generalize dist n T p qm = dq at nfar d3
    have hat : atI [V.int 1, V.int 2, V.int 4, V.int 8] (dq : Int) = some (.int (2 ^ dq)) := by
      rcases (by omega : dq = 0 ∨ dq = 1 ∨ dq = 2 ∨ dq = 3) with e | e | e | e <;> rw [e] <;> rfl
    -- the two bounds
    refine ⟨_, rfl, _, rfl, (by show 4 ≤ sizeLine; decide), fun pl hpl => ?_⟩
    have s8 : Same H5 (upd H5 pl (.lst [.int 1, .int 2, .int 4, .int 8])) := same_new hpl
    refine ⟨_, rfl, pl, _, (dq : Int), _, rfl, rfl, SqL.of upd_same, hat, _, _, rfl, rfl, .inl ⟨by omega, by omega⟩, _, _, rfl, rfl, _, rfl, ?_⟩
    show if decide ((N : Int) < m * 2 ^ dq) = true then _ else _
    rw [decide_eq_false (show ¬ (N : Int) < m * 2 ^ dq by omega)]
    refine iteF ?_
    refine ⟨_, rfl, _, rfl, _, rfl, _, _, rfl, rfl, _, _, rfl, rfl, _, _, rfl, rfl, _, rfl, ?_⟩
    show if decide ((N : Int) < m + (n : Int) - 1) = true then _ else _
    rw [decide_eq_false (show ¬ (N : Int) < m + (n : Int) - 1 by omega)]
    refine iteF ?_
    have s58 := (s6.trans s7).trans s8
    generalize upd H5 pl (.lst [.int 1, .int 2, .int 4, .int 8]) = H6 at s8 s58
    have hW6 := hW.same s58
    -- lacking
    refine ⟨_, rfl, n, rfl, by omega, fun H7 pl2 rs2 s9 npl hpl2 prs2 => ?_⟩
    have hW7 := hW6.same s9
    obtain ⟨t, rs, w1, w2, w3⟩ := id hW7
    have pl6 := pairs_len hn3
    refine ⟨pl2, rfl, ⟨_, SqL.of hpl2⟩, fun Dk hDk => ?_⟩
    refine lc_list (K := K) (a := pl2) (xs := rs2.map V.ref) (fun i H' => ∃ (qs : List Addr) (L : Web), Same H7 H' ∧ H' Dk = some (.lst (qs.map V.ref)) ∧ Prs H' qs L ∧ (∀ e ∈ L, e ∈ pairsF n ∧ e ∉ T) ∧ L.length ≤ i)
      ⟨[], [], same_new hDk, upd_same, .nil, fun e he => absurd he (by simp), Nat.le_refl _⟩ (fun i H' _ ⟨_, _, s10, _⟩ => s10.seq (SqL.of hpl2)) ?_ ?_
    · rintro j x H8 hj ⟨qs, L, s10, hq8, pq, hall, lenL⟩
      obtain ⟨r, e, rfl, hr0, he, hre⟩ := prs2.at hj
      have hre8 : H8 r = some (.tup (prV e)) := s10 _ _ hre
      have hjl := (List.getElem?_eq_some_iff.mp he).1
      have lq := pq.len
      refine ⟨rfl, _, rfl, _, rfl, wa, _, 1, _, rfl, rfl, SqT.of (s10 _ _ w1), rfl, tD (pI e), (T.map pI).map tD, dp_tup (h := pI e) hre8, .tup (SqT.of (s10 _ _ w2)) (dp_prs (w3.same s10)), tD_shaped _, tDs_tuple _, _, rfl, ?_⟩
      rw [tDs_any]
      by_cases ct : e ∈ T
      · rw [decide_eq_true (pI_mem.mpr ct)]
        exact iteF ⟨qs, L, s10, hq8, pq, hall, by omega⟩
      · rw [decide_eq_false (fun z => ct (pI_mem.mp z))]
        refine iteT ?_
        refine ⟨_, rfl, _, hq8, by rw [List.length_map]; exact small1000 (by omega), qs ++ [r], L ++ [e], s10.putK hDk, by rw [upd_same, List.map_append]; rfl, ?_, fun e' he' => ?_, by rw [List.length_append]; show L.length + 1 ≤ _; omega⟩
        · refine Prs.snoc (pq.stay hq8 fun b o e ne => by rw [upd_ne ne]; exact e) ?_
          rw [upd_ne (ne_of hre8 hq8 (by intro z; cases z))]
          exact hre8
        · rcases List.mem_append.mp he' with he' | he'
          · exact hall e' he'
          · rw [List.mem_singleton.mp he']
            exact ⟨List.mem_of_getElem? he, ct⟩
    rintro H8 ⟨qs, L, s10, hq8, pq, hall, lenL⟩
    have hW8 := hW7.same s10
    have ask8 : Asked H8 wa n T p m := ⟨hW8, gw, hpn, m1, m2⟩
    -- a tie more
    refine ⟨fun σ' H' => ∃ v9 : Option V, σ' = [some (.ref sa), some (.int c), some (.int (n : Int)), some (.ref wa), some (.int m), some (.int (p : Int)), some (.int (N : Int)), some (.int (dq : Int)), some (.ref Dk), v9, v10, v11, v12, v13, v14, v15] ∧ Same H8 H', ?_, ?_⟩
    · refine ⟨_, rfl, Nat.zero_le _, fun p0 hp0 => ?_⟩
      have s11 : Same H8 (upd H8 p0 (.lst [])) := same_new hp0
      refine ⟨.list ((L.map pI).map tD), .list [], .lst (SqL.of (s11 _ _ hq8)) (dp_prs (pq.same s11)), .lst (SqL.of upd_same) .nil, tDs_list _, tDs_list [], _, rfl, ?_⟩
      cases L with
      | nil =>
        have e0 : PyData.eqv (.list ((([] : Web).map pI).map tD)) (.list []) = true := by simp [PyData.eqv, PyData.eqvAll]
        rw [e0]
        exact iteF ⟨_, rfl, s11⟩
      | cons e0 L0 =>
        have ee : PyData.eqv (.list (((e0 :: L0).map pI).map tD)) (.list []) = false := by simp [PyData.eqv, PyData.eqvAll]
        rw [ee]
        refine iteT ?_
        generalize upd H8 p0 (.lst []) = H9 at s11
        have hq9 := s11 _ _ hq8
        have pq9 := pq.same s11
        have hW9 := hW8.same s11
        obtain ⟨t', rs', w1', w2', w3'⟩ := id hW9
        have lq := pq.len
        have lqp : (0 : Int) < ((qs.length : Nat) : Int) := by rw [lq, List.length_cons]; omega
        refine ⟨_, rfl, wa, _, 1, _, rfl, rfl, SqT.of w1', rfl, _, rfl, _, rfl, c, 11, rfl, by decide, by decide, fun rn2 => ?_⟩
        have q0 := Int.emod_nonneg rn2 (show ((qs.length : Nat) : Int) ≠ 0 by omega)
        have q1 := Int.emod_lt_of_pos rn2 lqp
        obtain ⟨ix, hix⟩ : ∃ ix : Nat, rn2 % ((qs.length : Nat) : Int) = (ix : Int) := ⟨(rn2 % ((qs.length : Nat) : Int)).toNat, by omega⟩
        have hixl : ix < (e0 :: L0).length := by omega
        obtain ⟨re, hre1, hre2⟩ := pq9.get (List.getElem?_eq_getElem hixl)
        obtain ⟨hp1, hp2⟩ := hall _ (List.getElem_mem hixl)
        generalize (e0 :: L0)[ix] = e at hre2 hp1 hp2
        refine ⟨_, rfl, Dk, _, rfl, .inl (SqL.of hq9), _, _, rfl, rfl, (by show (0 : Int) < (((qs.map V.ref).length : Nat) : Int); rw [List.length_map]; exact lqp), Dk, _, (ix : Int), .ref re, rfl, ?_, SqL.of hq9, atI_nat (by rw [List.getElem?_map, hre1]; rfl), (by show 1 ≤ sizeLine; decide), fun t1 ht1 => ?_⟩
        · show V.int (rn2 % (((qs.map V.ref).length : Nat) : Int)) = V.int (ix : Int)
          rw [List.length_map, hix]
        have s12 : Same H9 (upd H9 t1 (.tup [.ref re])) := same_new ht1
        dsimp only [tNil]
        refine cat_any (s12 _ _ w2') upd_same (by rw [List.length_map, w3'.len]; exact le1000 (by have := ok.len; show T.length + 1 ≤ 1000; omega)) fun H10 tc s13 hc => ?_
        have s913 := s12.trans s13
        have prT : Prs H10 (rs' ++ [re]) (T ++ [e]) := Prs.snoc (w3'.same s913) (s913 _ _ hre2)
        have ndT : (T ++ [e]).Nodup := by
          have ndT0 : T.Nodup := ok.srt.imp fun {a b} hab z => by
            unfold lexN at hab
            rw [z] at hab
            omega
          exact nd_snoc ndT0 hp2
        refine sort_prs (rs := rs' ++ [re]) (.inr (by rw [hc, List.map_append]; rfl)) prT ndT (fun x hx => ?_) fun H11 p4 rs4 L4 s14 np4 hp4 pr4 perm4 srt4 => ?_
        · rcases List.mem_append.mp hx with z | z
          · have := ok.wf x.1 x.2 z
            omega
          · rw [List.mem_singleton.mp z]
            have := mem_pairs.mp hp1
            omega
        have gw4 : GW n L4 := gw_more gw hp1 perm4 srt4
        refine ⟨p4, _, rfl, .inl ⟨SqL.of hp4, fun t5 ht5 => ?_⟩⟩
        have s15 : Same H11 (upd H11 t5 (.tup (rs4.map V.ref))) := same_new ht5
        refine ⟨_, rfl, _, rfl, (by show 2 ≤ sizeLine; decide), fun wa2 hwa2 => ?_⟩
        have s16 : Same (upd H11 t5 (.tup (rs4.map V.ref))) (upd (upd H11 t5 (.tup (rs4.map V.ref))) wa2 (.tup [.int (n : Int), .ref t5])) := same_new hwa2
        refine ⟨_, rfl, _, rfl, wa2, n, L4, p, m, rfl, ⟨⟨t5, rs4, upd_same, s16 _ _ upd_same, (pr4.same s15).same s16⟩, gw4, hpn, m1, m2⟩, fun H13 N2 s17 isn2 => ?_⟩
        have hmono : N2 ≤ N := isn.mono (fun x hx => perm4.mem_iff.mpr (List.mem_append_left _ hx)) isn2
        refine ⟨_, rfl, _, _, rfl, rfl, _, rfl, ?_⟩
        show if decide ((N : Int) < (N2 : Int)) = true then _ else _
        rw [decide_eq_false (show ¬ (N : Int) < (N2 : Int) by omega)]
        exact iteF ⟨_, rfl, ((((s11.trans s913).trans s14).trans s15).trans s16).trans s17⟩
    rintro σ' H9 ⟨v9, rfl, s11⟩
    have ask9 := ask8.same s11
    -- lesser
    have eN2 : (N : Int) - 2 = ((N - 2 : Nat) : Int) := by omega
    refine ⟨_, rfl, _, rfl, _, rfl, _, rfl, _, _, rfl, rfl, wa, n, T, p, m, N, N - 2, ?_, ask9, isn, by omega, fun H10 lr ll s12 nlr la => ?_⟩
    · show ([V.ref wa, V.int (p : Int), V.int m, V.int ((N : Int) - 2)] : List V) = [V.ref wa, V.int (p : Int), V.int m, V.int ((N - 2 : Nat) : Int)]
      rw [eN2]
    -- the worst ones
    refine ⟨_, rfl, _, rfl, _, rfl, wa, n, T, p, m, N, rfl, ask9.same s12, isn, fun H11 wr wl s13 nwr wla => ?_⟩
    refine ⟨20, rfl, wr, _, rfl, SqL.of wla.1, fun p5 hp5 => ?_⟩
    rw [show (20 : Int) = ((20 : Nat) : Int) from rfl, cut_head]
    have hmem : ∀ z ∈ wl.take (min 20 wl.length), z ∈ wl := fun z hz => List.mem_of_mem_take hz
    generalize wl.take (min 20 wl.length) = wk at hmem
    have s14 : Same H11 (upd H11 p5 (.lst (wk.map fun q => V.ref q.1))) := same_new hp5
    have hp5' : (upd H11 p5 (.lst (wk.map fun q => V.ref q.1))) p5 = some (.lst (wk.map fun q => V.ref q.1)) := upd_same
    generalize upd H11 p5 (.lst (wk.map fun q => V.ref q.1)) = H12 at s14 hp5'
    have hW12 : WebAt H12 wa n T := ((ask9.web.same s12).same s13).same s14
    have hlr : H12 lr = some (.lst (ll.map fun q => V.ref q.1)) := s14 _ _ (s13 _ _ la.1)
    have hll : ∀ z ∈ ll, HAt H12 z.1 z.2 := fun z hz => ((la.2.1 z hz).same s13).same s14
    have hmemL : ∀ x, Lev n T p m (N - 2) x → x ∈ ll.map Prod.snd := fun x hx => (la.2.2 x).mpr hx
    have hwk : ∀ z ∈ wk, HAt H12 z.1 z.2 ∧ Lev n T p m (N - 2 + 1) z.2 := fun z hz => by
      refine ⟨(wla.2.1 z (hmem z hz)).same s14, ?_⟩
      have := (wla.2.2 z.2).mp (List.mem_map.mpr ⟨z, hmem z hz, rfl⟩)
      rw [show N - 1 = N - 2 + 1 by omega] at this
      exact this
    have s312 : Same H1 H12 := ((((((((s4.trans s5).trans s58).trans s9).trans s10).trans s11).trans s12).trans s13).trans s14)
    refine ⟨p5, rfl, ⟨_, SqL.of hp5'⟩, for_list (K := K) (a := p5) (xs := wk.map fun q => V.ref q.1)
      (fun i σ H' => ∃ v11 v12 v13 : Option V, σ = [some (.ref sa), some (.int c), some (.int (n : Int)), some (.ref wa), some (.int m), some (.int (p : Int)), some (.int (N : Int)), some (.int (dq : Int)), some (.ref Dk), v9, some (.ref lr), v11, v12, v13, v14, v15] ∧ Same H12 H')
      ⟨v11, v12, v13, rfl, Same.refl _⟩ (fun i σ H' _ ⟨_, _, _, _, s15⟩ => s15.seq (SqL.of hp5')) ?_ ?_⟩
    · rintro jw x σ H13 hjw ⟨v11, v12, v13, rfl, s15⟩
      obtain ⟨z, hz, rfl⟩ : ∃ z, z ∈ wk ∧ x = V.ref z.1 := by
        rw [List.getElem?_map] at hjw
        cases e : wk[jw]? with
        | none => rw [e] at hjw; cases hjw
        | some z => rw [e] at hjw; exact ⟨z, List.mem_of_getElem? e, (Option.some.inj hjw).symm⟩
      obtain ⟨zat, zlev⟩ := hwk z hz
      obtain ⟨za, zh⟩ := z
      have zat : HAt H12 za zh := zat
      have zlev : Lev n T p m (N - 2 + 1) zh := zlev
      have hzl : zh.length = n := zlev.len
      have zlt := zlev.fail.lt
      have zsum := zlev.sum
      refine ⟨_, rfl, _, rfl, za, _, (p : Int), _, rfl, rfl, SqT.of (s15 _ _ zat), g_at (by omega), _, rfl, _, _, rfl, rfl, _, rfl, ?_⟩
      show if decide (m ≤ g zh p) = true then _ else _
      rw [decide_eq_false (show ¬ m ≤ g zh p by omega)]
      refine iteF ?_
      refine ⟨_, rfl, za, zh, rfl, SqT.of (s15 _ _ zat), _, rfl, _, _, rfl, rfl, rfl, _, rfl, ?_⟩
      show if (!decide (V.int zh.sum = V.int ((N : Int) - 1))) = true then _ else _
      rw [decide_eq_true (show V.int zh.sum = V.int ((N : Int) - 1) by rw [zsum]; exact congrArg V.int (by omega))]
      refine iteF ?_
      refine ⟨fun σ' H' => ∃ v12 : Option V, σ' = [some (.ref sa), some (.int c), some (.int (n : Int)), some (.ref wa), some (.int m), some (.int (p : Int)), some (.int (N : Int)), some (.int (dq : Int)), some (.ref Dk), v9, some (.ref lr), some (.ref za), v12, v13, v14, v15] ∧ Same H12 H', ?_, ?_⟩
      · refine ⟨_, rfl, (n : Int), rfl, by omega, by omega, for_range (lo := 0) (n := n)
          (fun k σ H' => ∃ v12 : Option V, σ = [some (.ref sa), some (.int c), some (.int (n : Int)), some (.ref wa), some (.int m), some (.int (p : Int)), some (.int (N : Int)), some (.int (dq : Int)), some (.ref Dk), v9, some (.ref lr), some (.ref za), v12, v13, v14, v15] ∧ Same H12 H')
          ⟨v12, rfl, s15⟩ ?_ (fun σ H' h => h)⟩
        rintro k σ H14 hk ⟨v12, rfl, s16⟩
        rw [Int.zero_add]
        have zat14 := zat.same s16
        refine ⟨_, rfl, _, rfl, za, _, (k : Int), _, rfl, rfl, SqT.of zat14, g_at (by omega), _, _, rfl, rfl, _, rfl, ite2 (fun cc => ?_) (fun cc => ?_)⟩
        · have hpos : 0 < g zh k := of_decide_eq_true cc
          have hkl : k < zh.length := by omega
          refine ⟨_, rfl, _, rfl, (k : Int), rfl, sl_any zat14 fun H15 t1 s17 e1 => ?_⟩
          rw [cut_to (by omega)] at e1
          refine ⟨_, rfl, _, rfl, za, _, (k : Int), _, rfl, rfl, SqT.of (s17 _ _ zat14), g_at hkl, _, _, rfl, rfl, (by show 1 ≤ sizeLine; decide), fun t2 ht2 => ?_⟩
          have s18 : Same H15 (upd H15 t2 (.tup [.int (g zh k - 1)])) := same_new ht2
          refine cat_any (s18 _ _ e1) upd_same (by rw [List.length_map, List.length_take]; exact le1000 (by show min k zh.length + 1 ≤ 1000; omega)) fun H16 t3 s19 e3 => ?_
          have s1619 := s17.trans (s18.trans s19)
          refine ⟨_, rfl, _, rfl, _, _, rfl, rfl, ((k + 1 : Nat) : Int), rfl, ?_⟩
          dsimp only [tNoPart]
          refine sl_any (s1619 _ _ zat14) fun H17 t4 s20 e4 => ?_
          rw [cut_from (by omega)] at e4
          refine cat_any (s20 _ _ e3) e4 (by rw [List.length_append, List.length_map, List.length_map, List.length_take, List.length_drop]; exact le1000 (by show min k zh.length + 1 + (zh.length - (k + 1)) ≤ 1000; omega)) fun H18 x0 s21 e5 => ?_
          have hx0 : HAt H18 x0 (zh.set k (g zh k - 1)) := by
            unfold HAt
            rw [e5, bump_parts hkl, List.map_append, List.map_append]
            rfl
          have s22 : Same H12 H18 := s16.trans (s1619.trans (s20.trans s21))
          refine ⟨_, rfl, tD (zh.set k (g zh k - 1)), (ll.map Prod.snd).map tD, dp_tup hx0, .lst (SqL.of (s22 _ _ hlr)) (dp_refs fun y hy => (hll y hy).same s22), tD_shaped _, tDs_list _, _, rfl, ?_⟩
          rw [tDs_any, decide_eq_true (hmemL _ (zlev.fewer ok.wf hk hpos))]
          exact iteF ⟨_, rfl, s22⟩
        · exact iteF ⟨_, rfl, s16⟩
      rintro σ' H14 ⟨v12', rfl, s16⟩
      refine ⟨_, rfl, _, rfl, wa, za, n, T, zh, rfl, hW12.same s16, ok, zat.same s16, hzl, fun H15 sp srs sL s17 nsp hsp spr sall => ?_⟩
      have s1617 := s16.trans s17
      refine ⟨sp, rfl, ⟨_, SqL.of hsp⟩, for_list (K := K) (a := sp) (xs := srs.map V.ref)
        (fun i σ H' => ∃ v13 : Option V, σ = [some (.ref sa), some (.int c), some (.int (n : Int)), some (.ref wa), some (.int m), some (.int (p : Int)), some (.int (N : Int)), some (.int (dq : Int)), some (.ref Dk), v9, some (.ref lr), some (.ref za), v12', v13, v14, v15] ∧ Same H15 H')
        ⟨v13, rfl, Same.refl _⟩ (fun i σ H' _ ⟨_, _, s18⟩ => s18.seq (SqL.of hsp)) ?_ ?_⟩
      · rintro k x σ H16 hk ⟨v13', rfl, s18⟩
        obtain ⟨r, e, rfl, hr0, he, hre⟩ := spr.at hk
        obtain ⟨ad, h2⟩ := sall e (List.mem_of_getElem? he)
        obtain ⟨b1, b2, _⟩ := ok.wf.adj ad
        have s1218 := s1617.trans s18
        refine ⟨_, rfl, _, rfl, za, r, zh, e, rfl, zat.same s1218, s18 _ _ hre, by omega, by omega, fun H17 x0 s19 nx0 hx0 => ?_⟩
        have s1219 := s1218.trans s19
        refine ⟨_, rfl, tD (doneF zh e.1 e.2), (ll.map Prod.snd).map tD, dp_tup hx0, .lst (SqL.of (s1219 _ _ hlr)) (dp_refs fun y hy => (hll y hy).same s1219), tD_shaped _, tDs_list _, _, rfl, ?_⟩
        rw [tDs_any, decide_eq_true (hmemL _ (zlev.step ok.wf ad h2))]
        exact iteF ⟨_, rfl, s18.trans s19⟩
      · rintro σ H16 ⟨v13', rfl, s18⟩
        exact ⟨_, _, _, rfl, s1617.trans s18⟩
    · rintro σ H13 ⟨v11, v12, v13, rfl, s15⟩
      exact ⟨_, _, _, _, _, _, _, _, _, _, _, _, _, _, _, rfl, s312.trans s15⟩
  · rintro σ H' ⟨v1, v2, v3, v4, v5, v6, v7, v8, v9, v10, v11, v12, v13, v14, v15, rfl, s4⟩
    exact q H'
end
end K64


set_option Elab.async false
set_option linter.all false
set_option maxRecDepth 100000
set_option maxHeartbeats 0
namespace K64
open PySem PySem.Spec PyProof.Rows L2
open C8 (Cal)
theorem facts {P : Program} {w : World} {K : PySem.W.Frag} {h : Heap} {mg : Str → Option Value} {f : Addr} (X : K.In h) (G : h.Ns mainGlobals mg) (hfa : mg ("law" : Str) = some (.ref f)) (c : He.SaysD fa fn K) :
    ∃ fd : FuncData, (∀ (s : Shared) (v : Value), BindsTo s fd ⟨[v], []⟩ [("script", v)]) ∧ ∀ base : Heap, K.In base → base.Ns mainGlobals mg → FnOk P w K mg base CX0 8 f fd ["script"] (spLaw K) := by
  have D_is_whole : DefAt K mg "is_whole" s_is_whole := by
    obtain ⟨fd, F⟩ := c.def_ 0 (d := d_is_whole) rfl
    exact ⟨_, fd, F, He.glo_ok X G (c.fact 0 (f := .glo "is_whole") rfl)⟩
  have D_is_from : DefAt K mg "is_from" s_is_from := by
    obtain ⟨fd, F⟩ := c.def_ 1 (d := d_is_from) rfl
    exact ⟨_, fd, F, He.glo_ok X G (c.fact 1 (f := .glo "is_from") rfl)⟩
  have D_is_two : DefAt K mg "is_two" s_is_two := by
    obtain ⟨fd, F⟩ := c.def_ 2 (d := d_is_two) rfl
    exact ⟨_, fd, F, He.glo_ok X G (c.fact 2 (f := .glo "is_two") rfl)⟩
  have D_web_good : DefAt K mg "web_good" s_web_good := by
    obtain ⟨fd, F⟩ := c.def_ 3 (d := d_web_good) rfl
    exact ⟨_, fd, F, He.glo_ok X G (c.fact 3 (f := .glo "web_good") rfl)⟩
  have D_need_web : DefAt K mg "need_web" s_need_web := by
    obtain ⟨fd, F⟩ := c.def_ 4 (d := d_need_web) rfl
    exact ⟨_, fd, F, He.glo_ok X G (c.fact 4 (f := .glo "need_web") rfl)⟩
  have D_need_place : DefAt K mg "need_place" s_need_place := by
    obtain ⟨fd, F⟩ := c.def_ 5 (d := d_need_place) rfl
    exact ⟨_, fd, F, He.glo_ok X G (c.fact 5 (f := .glo "need_place") rfl)⟩
  have D_need_number : DefAt K mg "need_number" s_need_number := by
    obtain ⟨fd, F⟩ := c.def_ 6 (d := d_need_number) rfl
    exact ⟨_, fd, F, He.glo_ok X G (c.fact 6 (f := .glo "need_number") rfl)⟩
  have D_need_few : DefAt K mg "need_few" s_need_few := by
    obtain ⟨fd, F⟩ := c.def_ 7 (d := d_need_few) rfl
    exact ⟨_, fd, F, He.glo_ok X G (c.fact 7 (f := .glo "need_few") rfl)⟩
  have D_all_steps : DefAt K mg "all_steps" s_all_steps := by
    obtain ⟨fd, F⟩ := c.def_ 8 (d := d_all_steps) rfl
    exact ⟨_, fd, F, He.glo_ok X G (c.fact 8 (f := .glo "all_steps") rfl)⟩
  have D_done : DefAt K mg "done" s_done := by
    obtain ⟨fd, F⟩ := c.def_ 9 (d := d_done) rfl
    exact ⟨_, fd, F, He.glo_ok X G (c.fact 9 (f := .glo "done") rfl)⟩
  have D_may_step : DefAt K mg "may_step" s_may_step := by
    obtain ⟨fd, F⟩ := c.def_ 10 (d := d_may_step) rfl
    exact ⟨_, fd, F, He.glo_ok X G (c.fact 10 (f := .glo "may_step") rfl)⟩
  have D_near : DefAt K mg "near" s_near := by
    obtain ⟨fd, F⟩ := c.def_ 11 (d := d_near) rfl
    exact ⟨_, fd, F, He.glo_ok X G (c.fact 11 (f := .glo "near") rfl)⟩
  have D_fars : DefAt K mg "fars" s_fars := by
    obtain ⟨fd, F⟩ := c.def_ 12 (d := d_fars) rfl
    exact ⟨_, fd, F, He.glo_ok X G (c.fact 12 (f := .glo "fars") rfl)⟩
  have D_far : DefAt K mg "far" s_far := by
    obtain ⟨fd, F⟩ := c.def_ 13 (d := d_far) rfl
    exact ⟨_, fd, F, He.glo_ok X G (c.fact 13 (f := .glo "far") rfl)⟩
  have D_pieces_of : DefAt K mg "pieces_of" s_pieces_of := by
    obtain ⟨fd, F⟩ := c.def_ 14 (d := d_pieces_of) rfl
    exact ⟨_, fd, F, He.glo_ok X G (c.fact 14 (f := .glo "pieces_of") rfl)⟩
  have D_one_piece : DefAt K mg "one_piece" s_one_piece := by
    obtain ⟨fd, F⟩ := c.def_ 15 (d := d_one_piece) rfl
    exact ⟨_, fd, F, He.glo_ok X G (c.fact 15 (f := .glo "one_piece") rfl)⟩
  have D_need_small : DefAt K mg "need_small" s_need_small := by
    obtain ⟨fd, F⟩ := c.def_ 16 (d := d_need_small) rfl
    exact ⟨_, fd, F, He.glo_ok X G (c.fact 16 (f := .glo "need_small") rfl)⟩
  have D_does_fail : DefAt K mg "does_fail" s_does_fail := by
    obtain ⟨fd, F⟩ := c.def_ 17 (d := d_does_fail) rfl
    exact ⟨_, fd, F, He.glo_ok X G (c.fact 17 (f := .glo "does_fail") rfl)⟩
  have D_more_failing : DefAt K mg "more_failing" s_more_failing := by
    obtain ⟨fd, F⟩ := c.def_ 18 (d := d_more_failing) rfl
    exact ⟨_, fd, F, He.glo_ok X G (c.fact 18 (f := .glo "more_failing") rfl)⟩
  have D_failing : DefAt K mg "failing" s_failing := by
    obtain ⟨fd, F⟩ := c.def_ 19 (d := d_failing) rfl
    exact ⟨_, fd, F, He.glo_ok X G (c.fact 19 (f := .glo "failing") rfl)⟩
  have D_need_asked : DefAt K mg "need_asked" s_need_asked := by
    obtain ⟨fd, F⟩ := c.def_ 20 (d := d_need_asked) rfl
    exact ⟨_, fd, F, He.glo_ok X G (c.fact 20 (f := .glo "need_asked") rfl)⟩
  have D_fails : DefAt K mg "fails" s_fails := by
    obtain ⟨fd, F⟩ := c.def_ 21 (d := d_fails) rfl
    exact ⟨_, fd, F, He.glo_ok X G (c.fact 21 (f := .glo "fails") rfl)⟩
  have D_need : DefAt K mg "need" s_need := by
    obtain ⟨fd, F⟩ := c.def_ 22 (d := d_need) rfl
    exact ⟨_, fd, F, He.glo_ok X G (c.fact 22 (f := .glo "need") rfl)⟩
  have D_worst : DefAt K mg "worst" s_worst := by
    obtain ⟨fd, F⟩ := c.def_ 23 (d := d_worst) rfl
    exact ⟨_, fd, F, He.glo_ok X G (c.fact 23 (f := .glo "worst") rfl)⟩
  have D_law_pairs : DefAt K mg "_law_pairs" s_law_pairs := by
    obtain ⟨fd, F⟩ := c.def_ 24 (d := d_law_pairs) rfl
    exact ⟨_, fd, F, He.glo_ok X G (c.fact 24 (f := .glo "_law_pairs") rfl)⟩
  have D_law_stir : DefAt K mg "_law_stir" s_law_stir := by
    obtain ⟨fd, F⟩ := c.def_ 25 (d := d_law_stir) rfl
    exact ⟨_, fd, F, He.glo_ok X G (c.fact 25 (f := .glo "_law_stir") rfl)⟩
  have D_law_web_by : DefAt K mg "_law_web_by" s_law_web_by := by
    obtain ⟨fd, F⟩ := c.def_ 26 (d := d_law_web_by) rfl
    exact ⟨_, fd, F, He.glo_ok X G (c.fact 26 (f := .glo "_law_web_by") rfl)⟩
  have D_law_joined_by : DefAt K mg "_law_joined_by" s_law_joined_by := by
    obtain ⟨fd, F⟩ := c.def_ 27 (d := d_law_joined_by) rfl
    exact ⟨_, fd, F, He.glo_ok X G (c.fact 27 (f := .glo "_law_joined_by") rfl)⟩
  have D_law_may : DefAt K mg "_law_may" s_law_may := by
    obtain ⟨fd, F⟩ := c.def_ 28 (d := d_law_may) rfl
    exact ⟨_, fd, F, He.glo_ok X G (c.fact 28 (f := .glo "_law_may") rfl)⟩
  have D_law_moved : DefAt K mg "_law_moved" s_law_moved := by
    obtain ⟨fd, F⟩ := c.def_ 29 (d := d_law_moved) rfl
    exact ⟨_, fd, F, He.glo_ok X G (c.fact 29 (f := .glo "_law_moved") rfl)⟩
  obtain ⟨fd, F⟩ := c.def_ 30 (d := d_law) rfl
  have B : Bl mg := ⟨He.free_ok X G (c.fact 31 (f := .free "isinstance") rfl), He.free_ok X G (c.fact 32 (f := .free "len") rfl), He.free_ok X G (c.fact 33 (f := .free "sorted") rfl), He.free_ok X G (c.fact 34 (f := .free "list") rfl), He.free_ok X G (c.fact 35 (f := .free "tuple") rfl), He.free_ok X G (c.fact 36 (f := .free "range") rfl), He.free_ok X G (c.fact 37 (f := .free "sum") rfl), He.free_ok X G (c.fact 38 (f := .free "max") rfl), He.free_ok X G (c.fact 39 (f := .free "enumerate") rfl), He.free_ok X G (c.fact 40 (f := .free "int") rfl), He.free_ok X G (c.fact 41 (f := .free "bool") rfl), He.int_ok X G (c.fact 42 (f := .int "MOST_PLACES" 8) rfl), He.int_ok X G (c.fact 43 (f := .int "MOST_STONES" 300) rfl), He.int_ok X G (c.fact 44 (f := .int "MOST_GONE" 6) rfl), He.int_ok X G (c.fact 45 (f := .int "MOST_BROUGHT" 3) rfl)⟩
  have e := hfa.symm.trans (He.glo_ok X G (c.fact 30 (f := .glo "law") rfl))
  cases e
  have b := FunD.bindsA (ps := ["script"]) F fun _ _ _ _ _ _ us hl => match us, hl with | [_], _ => rfl
  refine ⟨fd, fun s v => b s [v] rfl, fun base _ _ => ?_⟩
  have k1 := c_is_whole (P := P) (w := w) (base := base) B D_is_whole
  have k2 := c_is_from k1 D_is_from
  have k3 := c_is_two B k2 D_is_two
  have k4 := c_web_good B k2 k3 D_web_good
  have k5 := c_need_web k4 D_need_web
  have k6 := c_need_place k2 D_need_place
  have k7 := c_need_number k2 D_need_number
  have k8 := c_need_few (P := P) (w := w) (base := base) D_need_few
  have k9 := c_all_steps (P := P) (w := w) (base := base) B D_all_steps
  have k10 := c_done (P := P) (w := w) (base := base) B D_done
  have k11 := c_may_step k9 D_may_step
  have k12 := c_near (P := P) (w := w) (base := base) B D_near
  have k13 := c_fars B k12 D_fars
  have k14 := c_far k5 k6 k13 D_far
  have k15 := c_pieces_of B k13 D_pieces_of
  have k16 := c_one_piece B k15 D_one_piece
  have k17 := c_need_small B k16 k8 D_need_small
  have k18 := c_does_fail k11 k10 D_does_fail
  have k19 := c_more_failing B k18 D_more_failing
  have k20 := c_failing B k19 D_failing
  have k21 := c_need_asked B k5 k6 k7 D_need_asked
  have k22 := c_fails B k21 k7 k17 k20 D_fails
  have k23 := c_need B k21 k17 k20 D_need
  have k24 := c_worst B k21 k17 k20 D_worst
  have k25 := c_law_pairs (P := P) (w := w) (base := base) B D_law_pairs
  have k26 := c_law_stir (P := P) (w := w) (base := base) D_law_stir
  have k27 := c_law_web_by B k25 k26 D_law_web_by
  have k28 := c_law_joined_by B k27 k26 D_law_joined_by
  have k29 := c_law_may (P := P) (w := w) (base := base) B D_law_may
  have k30 := c_law_moved (P := P) (w := w) (base := base) B D_law_moved
  exact c_law B k28 k26 k23 k14 k25 k22 k24 k29 k30 F
end K64
open PySem PySem.W PySem.Calls PyProof.Rows
set_option maxRecDepth 100000 in
set_option maxHeartbeats 0 in
theorem PySem.Challenge.cw_twoforone_k64_whole_needs_hang_together_holds : PySem.Challenge.rw_twoforone_k64_whole_needs_hang_together.Holds := by
  w_on; o_law
  refine HandSHeadRun.head_any (r := OpenLaw.row PySem.Challenge.rw_twoforone_k64_whole_needs_hang_together) (q := view (OpenLaw.row PySem.Challenge.rw_twoforone_k64_whole_needs_hang_together).prog [46]) (H := K64.hk) (ob := K64.ob) (M := 4000) (loose := K64.loose) (d := HandSHeadRun.topDef (OpenLaw.row PySem.Challenge.rw_twoforone_k64_whole_needs_hang_together).prog 46) (kwd := []) K64.ob_eq
    (by kernel_rfl) (fun s => by kernel_rfl) K64.run (by kernel_rfl) (by kernel_rfl) (by kernel_rfl) (by rfl) (by first | assumption | decide +kernel) (by decide +kernel) ⟨rfl, rfl, rfl, rfl, rfl, by decide +kernel⟩ ?hw ?hc
  case hw => w_witness2
  case hc =>
    refine L2.walk_ofE (l := PySem.Challenge.rw_twoforone_k64_whole_needs_hang_together) (n := 63) (k := 8) (x := "script") (CX := L2.CX0) rfl (by decide) (by kernel_rfl) ⟨rfl, by decide, by decide⟩ ?F (fun _ _ _ _ z => z)
    intro w mg fa h Y G hmg0
    obtain ⟨K, KX, c⟩ := Y
    have hmg : mg ("law" : PySem.Str) = some (.ref fa) := by
      have e : (HandSHeadRun.topDef (OpenLaw.row PySem.Challenge.rw_twoforone_k64_whole_needs_hang_together).prog 46).name = ("law" : PySem.Str) := by kernel_rfl
      rw [← e]
      exact hmg0
    obtain ⟨fd, hb, hF⟩ := K64.facts (P := (PySem.Challenge.rw_twoforone_k64_whole_needs_hang_together).prog) (w := w) KX G hmg c
    exact ⟨K, fd, K64.spLaw K, KX, hb, fun H a ns hl _ hS => ⟨a, ns, rfl, hS, hl, fun _ => rfl⟩, hF⟩

