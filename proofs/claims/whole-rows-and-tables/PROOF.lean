import PyProof.Rows.All
import Wide.All
import OpenK.AllK
import Wide.FinOn
import HandS.ForMost
import HandS.More
import HandS.IsInst
import HandS.Star
import HandS.Property
import HandS.SetBool
import HandS.Strs
import HandS.TupAny
import HandS.Conv
import HandS.Flow
import KE.KSuper
import KE.KTupSum
import PySem.Challenge.RW_burstapart_k76_whole_rows_and_tables
import KE.GoesEnum
import HandS.Walk
import HandS.Codes
import HandS.Style
set_option Elab.async false
set_option linter.all false
set_option maxRecDepth 100000
namespace BA
/-! ### sums -/
/-- f 0 + .. + f (n - 1) -/
def S : Nat → (Nat → Int) → Int
  | 0, _ => 0
  | n + 1, f => S n f + f n
theorem S_congr : ∀ (n : Nat) {f g : Nat → Int}, (∀ i, i < n → f i = g i) → S n f = S n g
  | 0, _, _, _ => rfl
  | n + 1, f, g, h => by
    show S n f + f n = S n g + g n
    rw [S_congr n fun i hi => h i (by omega), h n (by omega)]
theorem S_add : ∀ (n : Nat) (f g : Nat → Int), S n (fun i => f i + g i) = S n f + S n g
  | 0, _, _ => rfl
  | n + 1, f, g => by
    show S n (fun i => f i + g i) + (f n + g n) = S n f + f n + (S n g + g n)
    rw [S_add n f g]; omega
theorem S_sub : ∀ (n : Nat) (f g : Nat → Int), S n (fun i => f i - g i) = S n f - S n g
  | 0, _, _ => rfl
  | n + 1, f, g => by
    show S n (fun i => f i - g i) + (f n - g n) = S n f + f n - (S n g + g n)
    rw [S_sub n f g]; omega
theorem S_zero : ∀ (n : Nat), S n (fun _ => 0) = 0
  | 0 => rfl
  | n + 1 => by show S n (fun _ => 0) + 0 = 0; rw [S_zero n]; rfl
theorem S_const (c : Int) : ∀ (n : Nat), S n (fun _ => c) = n * c
  | 0 => by show (0 : Int) = ((0 : Nat) : Int) * c; simp
  | n + 1 => by
    show S n (fun _ => c) + c = ((n + 1 : Nat) : Int) * c
    rw [S_const c n, Int.natCast_succ, Int.add_mul, Int.one_mul]
theorem S_comm (m : Nat) : ∀ (n : Nat) (f : Nat → Nat → Int), S n (fun i => S m (fun j => f i j)) = S m (fun j => S n (fun i => f i j))
  | 0, f => (S_zero m).symm
  | n + 1, f => by
    show S n (fun i => S m (fun j => f i j)) + S m (fun j => f n j) = S m (fun j => S n (fun i => f i j) + f n j)
    rw [S_comm m n f, S_add]
theorem S_front : ∀ (n : Nat) (f : Nat → Int), S (n + 1) f = f 0 + S n (fun i => f (i + 1))
  | 0, f => by show 0 + f 0 = f 0 + 0; omega
  | n + 1, f => by
    show S (n + 1) f + f (n + 1) = f 0 + (S n (fun i => f (i + 1)) + f (n + 1))
    rw [S_front n f]; omega
theorem S_split (m : Nat) : ∀ (n : Nat) (f : Nat → Int), S (m + n) f = S m f + S n (fun i => f (m + i))
  | 0, f => by show S m f = S m f + 0; omega
  | n + 1, f => by
    show S (m + n) f + f (m + n) = S m f + (S n (fun i => f (m + i)) + f (m + n))
    rw [S_split m n f]; omega
/-- a window of one period, wherever it begins -/
theorem S_slide {n : Nat} {f : Int → Int} (p : ∀ t, f (t + n) = f t) (c : Int) : S n (fun i => f (i + (c + 1))) = S n (fun i => f (i + c)) := by
  cases n with
  | zero => rfl
  | succ n =>
    rw [S_front n (fun i => f (i + c))]
    show S n (fun i => f (i + (c + 1))) + f ((n : Int) + (c + 1)) = _
    have e1 : f ((n : Int) + (c + 1)) = f (((0 : Nat) : Int) + c) := by
      rw [← p (((0 : Nat) : Int) + c)]
      congr 1
      omega
    have e2 : S n (fun i => f ((i : Int) + (c + 1))) = S n (fun i => f (((i + 1 : Nat) : Int) + c)) := S_congr n fun i _ => by
      show f ((i : Int) + (c + 1)) = f (((i + 1 : Nat) : Int) + c)
      congr 1
      omega
    rw [e1, e2]
    omega
theorem S_shiftN {n : Nat} {f : Int → Int} (p : ∀ t, f (t + n) = f t) : ∀ (c : Nat), S n (fun i => f (i + (c : Int))) = S n (fun i => f i)
  | 0 => S_congr n fun i _ => by
    show f ((i : Int) + ((0 : Nat) : Int)) = f i
    rw [show (i : Int) + ((0 : Nat) : Int) = i by omega]
  | c + 1 => by
    have h := S_slide p (c : Int)
    rw [S_shiftN p c] at h
    exact h
theorem S_shift {n : Nat} {f : Int → Int} (p : ∀ t, f (t + n) = f t) (c : Int) : S n (fun i => f (i + c)) = S n (fun i => f i) := by
  rcases Int.le_total 0 c with h | h
  · have e := S_shiftN p c.toNat
    rw [Int.toNat_of_nonneg h] at e
    exact e
  · have e := S_shiftN (f := fun t => f (t + c)) (n := n) (fun t => by
      show f (t + n + c) = f (t + c)
      rw [← p (t + c)]
      congr 1
      omega) (-c).toNat
    rw [Int.toNat_of_nonneg (by omega)] at e
    rw [← e]
    exact S_congr n fun i _ => by
      show f ((i : Int) + -c + c) = f (i : Int)
      congr 1
      omega
/-- how many -/
def I (p : Prop) [Decidable p] : Int := if p then 1 else 0
theorem I_pos {p : Prop} [Decidable p] (h : p) : I p = 1 := if_pos h
theorem I_neg {p : Prop} [Decidable p] (h : ¬ p) : I p = 0 := if_neg h
theorem I_congr {p q : Prop} [Decidable p] [Decidable q] (h : p ↔ q) : I p = I q := by
  by_cases hp : p
  · rw [I_pos hp, I_pos (h.mp hp)]
  · rw [I_neg hp, I_neg fun z => hp (h.mpr z)]
/-- just one place has it -/
theorem S_one {n k : Nat} (g : Nat → Int) : ∀ (m : Nat), k < m → S m (fun i => I (i = k) * g i) = g k
  | 0, h => absurd h (by omega)
  | m + 1, h => by
    show S m (fun i => I (i = k) * g i) + I (m = k) * g m = g k
    by_cases e : m = k
    · subst e
      have z : S m (fun i => I (i = m) * g i) = S m (fun _ => 0) := S_congr m fun i hi => by
        show I (i = m) * g i = 0
        rw [I_neg (by omega), Int.zero_mul]
      rw [z, S_zero, I_pos rfl, Int.one_mul, Int.zero_add]
    · rw [S_one (n := n) g m (by omega), I_neg e, Int.zero_mul, Int.add_zero]
theorem S_below (h : Nat) : ∀ (m : Nat), h ≤ m → S m (fun k => I (k < h)) = h
  | 0, e => by
    have : h = 0 := by omega
    subst this
    rfl
  | m + 1, e => by
    show S m (fun k => I (k < h)) + I (m < h) = h
    by_cases q : h ≤ m
    · rw [S_below h m q, I_neg (by omega), Int.add_zero]
    · have : h = m + 1 := by omega
      subst this
      have z : S m (fun k => I (k < m + 1)) = S m (fun _ => 1) := S_congr m fun i hi => by
        show I (i < m + 1) = 1
        rw [I_pos (by omega)]
      rw [z, S_const, I_pos (by omega)]
      omega
/-- a list's filter, counted -/
theorem S_filter (p : Nat → Bool) : ∀ (n : Nat), (((List.range n).filter p).length : Int) = S n (fun i => I (p i = true))
  | 0 => rfl
  | n + 1 => by
    rw [List.range_succ, List.filter_append, List.length_append, Int.natCast_add, S_filter p n]
    show _ = S n (fun i => I (p i = true)) + I (p n = true)
    congr 1
    by_cases e : p n = true
    · rw [I_pos e, List.filter_cons_of_pos e]; rfl
    · rw [I_neg e, List.filter_cons_of_neg e]; rfl
theorem S_sum : ∀ (hs : List Nat), S hs.length (fun i => (hs.getD i 0 : Nat)) = (hs.map (fun (h : Nat) => (h : Int))).sum
  | [] => rfl
  | h :: r => by
    show S (r.length + 1) _ = _
    rw [S_front]
    rw [List.map_cons, List.sum_cons, ← S_sum r]
    rfl
/-! ### one to one is onto -/
theorem onto_of_inj : ∀ (n : Nat) (f : Nat → Nat), (∀ i, i < n → f i < n) → (∀ i j, i < n → j < n → f i = f j → i = j) → ∀ j, j < n → ∃ i, i < n ∧ f i = j
  | 0, _, _, _, j, h => absurd h (by omega)
  | n + 1, f, hb, hi, j, hj => by
    have ih := onto_of_inj n (fun i => if f i = n then f n else f i)
      (fun i h => by
        show (if f i = n then f n else f i) < n
        have h1 := hb i (by omega)
        have h2 := hb n (by omega)
        split
        · rename_i e
          have : f n ≠ n := fun z => by
            have := hi i n (by omega) (by omega) (by omega)
            omega
          omega
        · omega)
      (fun i k h h' e => by
        have e : (if f i = n then f n else f i) = (if f k = n then f n else f k) := e
        split at e
        · rename_i a
          split at e
          · rename_i b
            exact hi i k (by omega) (by omega) (by omega)
          · have := hi n k (by omega) (by omega) e
            omega
        · split at e
          · have := hi i n (by omega) (by omega) e
            omega
          · exact hi i k (by omega) (by omega) e)
    by_cases ejn : j = n
    · subst ejn
      by_cases en : f j = j
      · exact ⟨j, by omega, en⟩
      · have hlt : f j < j := by have := hb j (by omega); omega
        obtain ⟨i, h, e⟩ := ih (f j) hlt
        have e : (if f i = j then f j else f i) = f j := e
        split at e
        · rename_i a
          exact ⟨i, by omega, a⟩
        · have := hi i j (by omega) (by omega) e
          omega
    · obtain ⟨i, h, e⟩ := ih j (by omega)
      have e : (if f i = n then f n else f i) = j := e
      split at e
      · exact ⟨n, by omega, e⟩
      · exact ⟨i, by omega, e⟩
/-! ### tables -/
def hold (hs : List Nat) (t : Int) : Int := ((hs.getD (t % (hs.length : Int)).toNat 0 : Nat) : Int)
def out (hs : List Nat) (t : Int) : Int := t + hold hs t
def pl (hs : List Nat) (i : Nat) : Nat := (i + hs.getD i 0) % hs.length
structure Tab (hs : List Nat) : Prop where
  pos : 0 < hs.length
  len : hs.length ≤ 24
  le : ∀ h ∈ hs, h ≤ 60
  inj : ∀ i j, i < hs.length → j < hs.length → pl hs i = pl hs j → i = j
def mx (hs : List Nat) : Nat := hs.foldr max 0
theorem mx_ge : ∀ {hs : List Nat} {h : Nat}, h ∈ hs → h ≤ mx hs
  | a :: r, h, m => by
    show h ≤ max a (mx r)
    rcases List.mem_cons.mp m with rfl | m
    · omega
    · have := mx_ge m
      omega
theorem mx_mem : ∀ {hs : List Nat}, 0 < hs.length → mx hs ∈ hs
  | [a], _ => by
    have : mx [a] = a := by show max a 0 = a; omega
    rw [this]; exact List.mem_cons_self
  | a :: b :: r, _ => by
    have ih := mx_mem (hs := b :: r) (by show 0 < r.length + 1; omega)
    have e : mx (a :: b :: r) = max a (mx (b :: r)) := rfl
    rw [e]
    rcases Nat.le_total a (mx (b :: r)) with h | h
    · rw [Nat.max_eq_right h]; exact List.mem_cons_of_mem _ ih
    · rw [Nat.max_eq_left h]; exact List.mem_cons_self
theorem mx_uniq {hs : List Nat} {m : Nat} (h1 : m ∈ hs) (h2 : ∀ h ∈ hs, h ≤ m) : m = mx hs := by
  have a := mx_ge h1
  have b := h2 _ (mx_mem (by cases hs with
    | nil => cases h1
    | cons => show 0 < _ + 1; omega))
  omega
section
variable {hs : List Nat} (T : Tab hs)
include T
theorem Tab.posI : (0 : Int) < (hs.length : Int) := by have := T.pos; omega
theorem place_lt (t : Int) : (t % (hs.length : Int)).toNat < hs.length := by
  have h1 := Int.emod_nonneg t (b := (hs.length : Int)) (by have := T.pos; omega)
  have h2 := Int.emod_lt_of_pos t T.posI
  omega
theorem place_cast (t : Int) : (((t % (hs.length : Int)).toNat : Nat) : Int) = t % (hs.length : Int) :=
  Int.toNat_of_nonneg (Int.emod_nonneg t (by have := T.pos; omega))
theorem hold_mem (t : Int) : hs.getD (t % (hs.length : Int)).toNat 0 ∈ hs := by
  have h := place_lt T t
  rw [List.getD_eq_getElem?_getD, List.getElem?_eq_getElem h]
  exact List.getElem_mem h
theorem hold_nn (t : Int) : 0 ≤ hold hs t := by unfold hold; omega
theorem hold_le (t : Int) : hold hs t ≤ mx hs := by
  have := mx_ge (hold_mem T t)
  unfold hold
  omega
theorem hold_le60 (t : Int) : hold hs t ≤ 60 := by
  have := T.le _ (hold_mem T t)
  unfold hold
  omega
theorem mx_le : mx hs ≤ 60 := T.le _ (mx_mem T.pos)
theorem hold_per (t : Int) : hold hs (t + hs.length) = hold hs t := by
  unfold hold
  rw [Int.add_emod_right]
theorem out_per (t : Int) : out hs (t + hs.length) = out hs t + hs.length := by
  unfold out
  rw [hold_per T]; omega
theorem hold_place {i : Nat} (h : i < hs.length) : hold hs i = (hs.getD i 0 : Nat) := by
  unfold hold
  have e : ((i : Int) % (hs.length : Int)).toNat = i := by
    rw [Int.emod_eq_of_lt (by omega) (by omega)]
    omega
  rw [e]
theorem pl_cast (t : Int) : ((pl hs (t % (hs.length : Int)).toNat : Nat) : Int) = out hs t % (hs.length : Int) := by
  unfold pl out hold
  rw [Int.natCast_emod, Int.natCast_add, place_cast T, Int.emod_add_emod]
theorem out_inj {t u : Int} (h : out hs t = out hs u) : t = u := by
  have e : pl hs (t % (hs.length : Int)).toNat = pl hs (u % (hs.length : Int)).toNat := by
    have a := pl_cast T t
    have b := pl_cast T u
    rw [h] at a
    omega
  have p := T.inj _ _ (place_lt T t) (place_lt T u) e
  unfold out hold at h
  rw [p] at h
  omega
theorem out_onto (u : Int) : ∃ t, out hs t = u := by
  obtain ⟨i, hi, e⟩ := onto_of_inj hs.length (pl hs) (fun i _ => Nat.mod_lt _ T.pos) T.inj (u % (hs.length : Int)).toNat (place_lt T u)
  refine ⟨u - (hs.getD i 0 : Nat), ?_⟩
  have c : ((i : Int) + (hs.getD i 0 : Nat)) % (hs.length : Int) = u % (hs.length : Int) := by
    have := place_cast T u
    rw [← e] at this
    unfold pl at this
    rw [Int.natCast_emod, Int.natCast_add] at this
    exact this
  have r : (u - (hs.getD i 0 : Nat)) % (hs.length : Int) = i := by
    rw [Int.sub_emod, ← c, ← Int.sub_emod]
    rw [show (i : Int) + (hs.getD i 0 : Nat) - (hs.getD i 0 : Nat) = i by omega]
    exact Int.emod_eq_of_lt (by omega) (by omega)
  unfold out hold
  rw [r]
  show u - ((hs.getD i 0 : Nat) : Int) + ((hs.getD (Int.toNat i) 0 : Nat) : Int) = u
  rw [Int.toNat_natCast]
  omega
end
noncomputable def thing (hs : List Nat) (u : Int) : Int := open Classical in if h : ∃ t, out hs t = u then h.choose else 0
section
variable {hs : List Nat} (T : Tab hs)
include T
theorem out_thing (u : Int) : out hs (thing hs u) = u := by
  have h := out_onto T u
  unfold thing
  rw [dif_pos h]
  exact h.choose_spec
theorem thing_uniq {t u : Int} (h : out hs t = u) : thing hs u = t := out_inj T ((out_thing T u).trans h.symm)
theorem thing_out (t : Int) : thing hs (out hs t) = t := thing_uniq T rfl
theorem thing_le (u : Int) : thing hs u ≤ u := by
  have := out_thing T u
  have := hold_nn T (thing hs u)
  unfold out at *
  omega
theorem thing_ge (u : Int) : u - mx hs ≤ thing hs u := by
  have := out_thing T u
  have := hold_le T (thing hs u)
  unfold out at *
  omega
theorem thing_per (u : Int) : thing hs (u + hs.length) = thing hs u + hs.length := thing_uniq T (by rw [out_per T, out_thing T])
/-! ### how many are held -/
/-- as tick u begins, with D ticks looked back -/
def heldBy (hs : List Nat) (D : Nat) (u : Int) : Int := S D (fun k => I (u ≤ out hs (u - 1 - k)))
omit T in
theorem mul_I {p : Prop} [Decidable p] (x : Int) : I p * x = if p then x else 0 := by
  by_cases h : p
  · rw [I_pos h, if_pos h, Int.one_mul]
  · rw [I_neg h, if_neg h, Int.zero_mul]
/-- the number held is the same at each tick -/
theorem heldBy_step {D : Nat} (hD : mx hs ≤ D) (u : Int) : heldBy hs D (u + 1) = heldBy hs D u := by
  -- over the things u, u - 1, .., u - D: held at u + 1 is I (u + 1 ≤ out)
  have a : heldBy hs D (u + 1) = S (D + 1) (fun k => I (u + 1 ≤ out hs (u - k))) := by
    show _ = S D (fun k => I (u + 1 ≤ out hs (u - k))) + I (u + 1 ≤ out hs (u - (D : Int)))
    rw [I_neg (p := u + 1 ≤ out hs (u - (D : Int))) (by
      have := hold_le T (u - D)
      unfold out
      omega), Int.add_zero]
    exact S_congr D fun k _ => I_congr (by rw [show u + 1 - 1 - (k : Int) = u - k by omega])
  have b : S (D + 1) (fun k => I (u ≤ out hs (u - k))) = 1 + heldBy hs D u := by
    rw [S_front, I_pos (by have := hold_nn T (u - ((0 : Nat) : Int)); unfold out; omega)]
    congr 1
    exact S_congr D fun k _ => I_congr (by rw [show u - ((k + 1 : Nat) : Int) = u - 1 - k by omega])
  have c : S (D + 1) (fun k => I (u ≤ out hs (u - k))) = S (D + 1) (fun k => I (u + 1 ≤ out hs (u - k))) + 1 := by
    have t0 := thing_le T u
    have t1 := thing_ge T u
    have one := S_one (n := 0) (k := (u - thing hs u).toNat) (fun _ => 1) (D + 1) (by omega)
    refine Eq.trans (S_congr _ (g := fun k => I (u + 1 ≤ out hs (u - k)) + I (k = (u - thing hs u).toNat) * 1) fun k _ => ?_) ((S_add _ _ _).trans (congrArg _ one))
    show I (u ≤ out hs (u - k)) = I (u + 1 ≤ out hs (u - k)) + I (k = (u - thing hs u).toNat) * 1
    rw [Int.mul_one]
    by_cases e : k = (u - thing hs u).toNat
    · have q : u - (k : Int) = thing hs u := by omega
      rw [q, out_thing T, I_pos (Int.le_refl u), I_neg (by omega), I_pos e]
      rfl
    · rw [I_neg e, Int.add_zero]
      refine I_congr ⟨fun h => ?_, fun h => by omega⟩
      have ne : out hs (u - k) ≠ u := fun z => e (by have := thing_uniq T z; omega)
      omega
  omega
theorem heldBy_const {D : Nat} (hD : mx hs ≤ D) (u : Int) : heldBy hs D u = heldBy hs D 0 := by
  have up : ∀ (k : Nat) (v : Int), heldBy hs D (v + k) = heldBy hs D v := fun k v => by
    induction k with
    | zero => rw [show v + ((0 : Nat) : Int) = v by omega]
    | succ k ih => rw [show v + ((k + 1 : Nat) : Int) = v + k + 1 by omega, heldBy_step T hD, ih]
  rcases Int.le_total 0 u with h | h
  · have e := up u.toNat 0
    rw [show (0 : Int) + (u.toNat : Int) = u by omega] at e
    exact e
  · have e := up (-u).toNat u
    rw [show u + ((-u).toNat : Int) = 0 by omega] at e
    exact e.symm
theorem heldBy_sum {D : Nat} (hD : mx hs ≤ D) : S hs.length (fun u => heldBy hs D u) = (hs.map (fun (h : Nat) => (h : Int))).sum := by
  show S hs.length (fun u => S D (fun k => I ((u : Int) ≤ out hs ((u : Int) - 1 - k)))) = _
  rw [S_comm]
  have e : ∀ k, S hs.length (fun u => I ((u : Int) ≤ out hs ((u : Int) - 1 - k))) = S hs.length (fun u => I ((k : Int) < hold hs u)) := fun k => by
    have sh := S_shift (n := hs.length) (f := fun t => I ((k : Int) < hold hs t)) (fun t => by
      show I ((k : Int) < hold hs (t + hs.length)) = I ((k : Int) < hold hs t)
      rw [hold_per T]) (-1 - k)
    rw [← sh]
    refine S_congr _ fun u _ => I_congr ?_
    show (u : Int) ≤ out hs ((u : Int) - 1 - k) ↔ (k : Int) < hold hs ((u : Int) + (-1 - k))
    rw [show (u : Int) + (-1 - (k : Int)) = (u : Int) - 1 - k by omega]
    unfold out
    omega
  rw [S_congr D fun k _ => e k, ← S_comm, ← S_sum]
  refine S_congr _ fun u hu => ?_
  show S D (fun k => I ((k : Int) < hold hs u)) = _
  rw [hold_place T hu]
  refine Eq.trans (S_congr _ fun k _ => I_congr (q := k < hs.getD u 0) (by omega)) (S_below (hs.getD u 0) D (Nat.le_trans (by
    have := hold_mem T u
    have e : ((u : Int) % (hs.length : Int)).toNat = u := by
      rw [Int.emod_eq_of_lt (by omega) (by omega)]
      omega
    rw [e] at this
    exact mx_ge this) hD))
/-- so many are held at each tick -/
def heldOf (hs : List Nat) : Int := (hs.map (fun (h : Nat) => (h : Int))).sum / (hs.length : Int)
theorem heldBy_eq {D : Nat} (hD : mx hs ≤ D) (u : Int) : heldBy hs D u = heldOf hs := by
  have a := heldBy_sum T hD
  rw [S_congr hs.length (g := fun _ => heldBy hs D u) fun i _ => by
    show heldBy hs D i = heldBy hs D u
    rw [heldBy_const T hD i, heldBy_const T hD u], S_const] at a
  unfold heldOf
  rw [← a]
  exact (Int.mul_ediv_cancel_left _ (by have := T.pos; omega)).symm
theorem heldOf_mul {D : Nat} (hD : mx hs ≤ D) : (hs.length : Int) * heldOf hs = (hs.map (fun (h : Nat) => (h : Int))).sum := by
  have a := heldBy_sum T hD
  rw [S_congr hs.length (g := fun _ => heldOf hs) fun i _ => heldBy_eq T hD i, S_const] at a
  exact a
end
section
variable {hs : List Nat} (T : Tab hs)
include T
/-! ### overtakings -/
/-- how many behind thing t come out ahead of it -/
def passed (hs : List Nat) (D : Nat) (t : Int) : Int := S D (fun k => I (out hs (t + 1 + k) < out hs t))
/-- how many ahead of thing t come out behind it -/
def passing (hs : List Nat) (D : Nat) (t : Int) : Int := S D (fun k => I (out hs t < out hs (t - 1 - k)))
theorem passed_per {D : Nat} (t : Int) : passed hs D (t + hs.length) = passed hs D t := S_congr D fun k _ => I_congr (by
  rw [show t + (hs.length : Int) + 1 + k = t + 1 + k + hs.length by omega, out_per T, out_per T]
  omega)
theorem passed_passing {D : Nat} : S hs.length (fun t => passed hs D t) = S hs.length (fun t => passing hs D t) := by
  show S hs.length (fun t => S D (fun k => I (out hs ((t : Int) + 1 + k) < out hs t))) = S hs.length (fun t => S D (fun k => I (out hs t < out hs ((t : Int) - 1 - k))))
  rw [S_comm D hs.length (fun t k => I (out hs ((t : Int) + 1 + k) < out hs t)), S_comm D hs.length (fun t k => I (out hs t < out hs ((t : Int) - 1 - k)))]
  refine S_congr D fun k _ => ?_
  have sh := S_shift (n := hs.length) (f := fun t => I (out hs t < out hs (t - 1 - k))) (fun t => by
    show I (out hs (t + hs.length) < out hs (t + hs.length - 1 - k)) = I (out hs t < out hs (t - 1 - k))
    refine I_congr ?_
    rw [show t + (hs.length : Int) - 1 - k = t - 1 - k + hs.length by omega, out_per T, out_per T]
    omega) (1 + k)
  rw [← sh]
  refine S_congr _ fun t _ => I_congr ?_
  show out hs ((t : Int) + 1 + k) < out hs t ↔ out hs ((t : Int) + (1 + k)) < out hs ((t : Int) + (1 + k) - 1 - k)
  rw [show (t : Int) + (1 + (k : Int)) = (t : Int) + 1 + k by omega, show (t : Int) + 1 + (k : Int) - 1 - k = t by omega]
/-- by the ticks at which the things come out, in place of the things -/
theorem S_thing {D : Nat} (hD : mx hs ≤ D) {g : Int → Int} (p : ∀ t, g (t + hs.length) = g t) : S hs.length (fun u => g (thing hs u)) = S hs.length (fun t => g t) := by
  have a : S hs.length (fun u => g (thing hs u)) = S hs.length (fun u => S (D + 1) (fun k => I (out hs ((u : Int) - k) = u) * g ((u : Int) - k))) := S_congr _ fun u _ => by
    have t0 := thing_le T u
    have t1 := thing_ge T u
    have one := S_one (n := 0) (k := ((u : Int) - thing hs u).toNat) (fun k => g ((u : Int) - k)) (D + 1) (by omega)
    have e : (u : Int) - (((u : Int) - thing hs u).toNat : Int) = thing hs u := by omega
    rw [e] at one
    rw [← one]
    refine S_congr _ fun k _ => ?_
    congr 1
    refine I_congr ⟨fun h => ?_, fun h => ?_⟩
    · rw [h, e, out_thing T]
    · have := thing_uniq T h
      omega
  have b : ∀ k : Nat, S hs.length (fun u => I (out hs ((u : Int) - k) = u) * g ((u : Int) - k)) = S hs.length (fun t => I ((k : Int) = hold hs t) * g t) := fun k => by
    have sh := S_shift (n := hs.length) (f := fun t => I ((k : Int) = hold hs t) * g t) (fun t => by
      show I ((k : Int) = hold hs (t + hs.length)) * g (t + hs.length) = I ((k : Int) = hold hs t) * g t
      rw [hold_per T, p]) (-k)
    rw [← sh]
    refine S_congr _ fun u _ => ?_
    show _ = I ((k : Int) = hold hs ((u : Int) + -k)) * g ((u : Int) + -k)
    rw [show (u : Int) + -(k : Int) = (u : Int) - k by omega]
    congr 1
    refine I_congr ?_
    unfold out
    omega
  rw [a, S_comm, S_congr (D + 1) fun k _ => b k, ← S_comm]
  refine S_congr _ fun t _ => ?_
  have h0 := hold_nn T t
  have h1 := hold_le T t
  have one := S_one (n := 0) (k := (hold hs t).toNat) (fun _ => g t) (D + 1) (by omega)
  refine Eq.trans (S_congr _ fun k _ => ?_) one
  show I ((k : Int) = hold hs t) * g t = I (k = (hold hs t).toNat) * g t
  congr 1
  exact I_congr (by omega)
/-- what a row that counts adds as the thing t comes out: those behind it, less those of them that still wait -/
def adds (hs : List Nat) (t : Int) : Int := S (hold hs t).toNat (fun k => I (out hs (t + 1 + k) < out hs t))
theorem adds_eq {D : Nat} (hD : mx hs ≤ D) (t : Int) : adds hs t = passed hs D t := by
  have h0 := hold_nn T t
  have h1 := hold_le T t
  unfold adds passed
  rw [show D = (hold hs t).toNat + (D - (hold hs t).toNat) by omega, S_split, S_congr (D - (hold hs t).toNat) (g := fun _ => 0) (fun k _ => I_neg (by
    have := hold_nn T (t + 1 + (((hold hs t).toNat + k : Nat) : Int))
    unfold out at *
    omega)), S_zero, Int.add_zero]
/-- the card of a thing, with the things from D ticks ahead of it on -/
def card (hs : List Nat) (D : Nat) (t : Int) : Int := S (D + 1) (fun k => I (t < out hs (t - D + k) ∧ out hs (t - D + k) ≤ out hs t))
/-- the same sum from the other end -/
theorem S_turn : ∀ (n : Nat) (f : Nat → Int), S (n + 1) f = S (n + 1) (fun k => f (n - k))
  | 0, f => rfl
  | n + 1, f => by
    show S (n + 1) f + f (n + 1) = _
    rw [S_front (n + 1) (fun k => f (n + 1 - k)), S_turn n f]
    rw [show n + 1 - 0 = n + 1 from rfl, S_congr (n + 1) (f := fun i => f (n + 1 - (i + 1))) (g := fun k => f (n - k)) fun k _ => by
      show f (n + 1 - (k + 1)) = f (n - k)
      congr 1
      omega]
    omega
theorem card_eq {D : Nat} (hD : mx hs ≤ D) (t : Int) : card hs D t = heldOf hs - passing hs D t := by
  rw [← heldBy_eq T hD (t + 1)]
  have a : card hs D t = S (D + 1) (fun k => I (t < out hs (t - k) ∧ out hs (t - k) ≤ out hs t)) := by
    unfold card
    rw [S_turn T]
    refine S_congr _ fun k hk => ?_
    show I (t < out hs (t - D + ((D - k : Nat) : Int)) ∧ out hs (t - D + ((D - k : Nat) : Int)) ≤ out hs t) = _
    rw [show t - (D : Int) + ((D - k : Nat) : Int) = t - k by omega]
  have b : heldBy hs D (t + 1) = S (D + 1) (fun k => I (t < out hs (t - k))) := by
    show _ = S D (fun k => I (t < out hs (t - k))) + I (t < out hs (t - (D : Int)))
    rw [I_neg (p := t < out hs (t - (D : Int))) (by
      have := hold_le T (t - D)
      unfold out
      omega), Int.add_zero]
    exact S_congr D fun k _ => I_congr (by rw [show t + 1 - 1 - (k : Int) = t - k by omega]; omega)
  have c : passing hs D t = S (D + 1) (fun k => I (out hs t < out hs (t - k))) := by
    rw [S_front, I_neg (by rw [show t - ((0 : Nat) : Int) = t by omega]; omega), Int.zero_add]
    exact S_congr D fun k _ => I_congr (by rw [show t - ((k + 1 : Nat) : Int) = t - 1 - k by omega])
  rw [a, b, c, ← S_sub]
  refine S_congr _ fun k _ => ?_
  show I (t < out hs (t - k) ∧ out hs (t - k) ≤ out hs t) = I (t < out hs (t - k)) - I (out hs t < out hs (t - k))
  have h0 := hold_nn T t
  have ot : out hs t = t + hold hs t := rfl
  by_cases h1 : out hs t < out hs (t - k)
  · rw [I_pos h1, I_pos (p := t < out hs (t - k)) (by omega), I_neg (by omega)]
    rfl
  · rw [I_neg h1, Int.sub_zero]
    exact I_congr (by omega)
/-- THE COUNT: what n ticks add is the length times held, less the cards -/
theorem adds_sum {D : Nat} (hD : mx hs ≤ D) (c : Int) : S hs.length (fun i => adds hs (thing hs (i + c))) = (hs.length : Int) * heldOf hs - S hs.length (fun t => card hs D t) := by
  have p : ∀ t, adds hs (t + hs.length) = adds hs t := fun t => by rw [adds_eq T hD, adds_eq T hD, passed_per T]
  have sh := S_shift (n := hs.length) (f := fun u => adds hs (thing hs u)) (fun u => by
    show adds hs (thing hs (u + hs.length)) = adds hs (thing hs u)
    rw [thing_per T, p]) c
  rw [sh, S_thing T hD p, S_congr hs.length fun t _ => adds_eq T hD t, passed_passing T, S_congr hs.length fun t _ => card_eq T hD t, S_sub, S_const]
  omega
/-! ### the way back -/
/-- the hold at a place of the table that brings all into order: that of the thing that comes out there -/
theorem back_tab {bs : List Nat} (hl : bs.length = hs.length) (hb : ∀ i, i < hs.length → bs.getD (pl hs i) 0 = mx hs - hs.getD i 0) : Tab bs := by
  have on : ∀ j, j < hs.length → ∃ i, i < hs.length ∧ pl hs i = j := onto_of_inj hs.length (pl hs) (fun i _ => Nat.mod_lt _ T.pos) T.inj
  have get_le : ∀ i, i < hs.length → hs.getD i 0 ≤ mx hs := fun i h => mx_ge (by
    rw [List.getD_eq_getElem?_getD, List.getElem?_eq_getElem h]
    exact List.getElem_mem h)
  have plb : ∀ i, i < hs.length → pl bs (pl hs i) = (i + mx hs) % hs.length := fun i h => by
    show (pl hs i + bs.getD (pl hs i) 0) % bs.length = _
    rw [hb i h, hl]
    show ((i + hs.getD i 0) % hs.length + (mx hs - hs.getD i 0)) % hs.length = _
    rw [Nat.mod_add_mod]
    have := get_le i h
    congr 1
    omega
  refine ⟨by rw [hl]; exact T.pos, by rw [hl]; exact T.len, fun h m => ?_, fun i j hi hj e => ?_⟩
  · obtain ⟨j, hj, e⟩ := List.mem_iff_getElem.mp m
    obtain ⟨i, hi, ep⟩ := on j (by omega)
    have q := hb i hi
    rw [ep, List.getD_eq_getElem?_getD, List.getElem?_eq_getElem hj] at q
    have := mx_le T
    have q : bs[j] = mx hs - hs.getD i 0 := q
    omega
  · rw [hl] at hi hj
    obtain ⟨i', hi', rfl⟩ := on i hi
    obtain ⟨j', hj', rfl⟩ := on j hj
    rw [plb i' hi', plb j' hj'] at e
    have hp := T.pos
    have ec : ((i' : Int) + mx hs) % hs.length = ((j' : Int) + mx hs) % hs.length := by
      have := congrArg (fun (n : Nat) => (n : Int)) e
      simp only [Int.natCast_emod, Int.natCast_add] at this
      exact this
    have d : ((i' : Int) + mx hs - mx hs) % hs.length = ((j' : Int) + mx hs - mx hs) % hs.length := by
      rw [Int.sub_emod, ec, ← Int.sub_emod]
    rw [show (i' : Int) + mx hs - mx hs = i' by omega, show (j' : Int) + mx hs - mx hs = j' by omega, Int.emod_eq_of_lt (by omega) (by omega), Int.emod_eq_of_lt (by omega) (by omega)] at d
    have : i' = j' := by omega
    rw [this]
theorem back_out {bs : List Nat} (hl : bs.length = hs.length) (hb : ∀ i, i < hs.length → bs.getD (pl hs i) 0 = mx hs - hs.getD i 0) (t : Int) : out bs (out hs t) = t + mx hs := by
  have B := back_tab T hl hb
  have q := hb _ (place_lt T t)
  have e : (out hs t % (bs.length : Int)).toNat = pl hs (t % (hs.length : Int)).toNat := by
    have := pl_cast T t
    rw [hl]
    omega
  have m := mx_ge (hold_mem T t)
  have : hold bs (out hs t) = mx hs - hold hs t := by
    unfold hold
    rw [e, q]
    omega
  unfold out at *
  omega
theorem back_thing {bs : List Nat} (hl : bs.length = hs.length) (hb : ∀ i, i < hs.length → bs.getD (pl hs i) 0 = mx hs - hs.getD i 0) (v : Int) : thing bs v = out hs (v - mx hs) :=
  thing_uniq (back_tab T hl hb) (by rw [back_out T hl hb]; omega)
end
end BA
set_option maxHeartbeats 4000000
namespace BA
open PySem PySem.Spec PyProof.Rows L2
/-! ### the text by places -/
def top (i : Nat) : Stmt := PySem.Challenge.pw_burstapart_k76_whole_rows_and_tables.main.body.getD i (.Pass ⟨0, 0, 0, 0⟩)
abbrev sIsInteger : Stmt := top 10
abbrev sIsBetween : Stmt := top 11
abbrev sIsOnto : Stmt := top 12
abbrev sIsTable : Stmt := top 13
abbrev sNeedTable : Stmt := top 14
abbrev sNeedInteger : Stmt := top 15
abbrev sHoldOf : Stmt := top 16
abbrev sOutOf : Stmt := top 17
abbrev sThingOf : Stmt := top 18
abbrev sHeldOf : Stmt := top 19
abbrev sBackOf : Stmt := top 20
abbrev sOutAt : Stmt := top 21
abbrev sThingAt : Stmt := top 22
abbrev sHeld : Stmt := top 23
abbrev sDelay : Stmt := top 24
abbrev sBack : Stmt := top 25
abbrev sStateOf : Stmt := top 27
abbrev sStateAt : Stmt := top 28
abbrev sIsValue : Stmt := top 32
abbrev sNeedValue : Stmt := top 33
abbrev sStandI : Stmt := inClass (top 34) 0
abbrev sCopied : Stmt := top 35
abbrev sHoldAhead : Stmt := top 36
abbrev sRowI : Stmt := inClass (top 40) 1
abbrev sTick : Stmt := inClass (top 40) 4
abbrev sRHeld : Stmt := inClass (top 40) 5
abbrev sPutR : Stmt := inClass (top 40) 7
abbrev sStep : Stmt := inClass (top 40) 8
abbrev sPush : Stmt := inClass (top 40) 9
abbrev sPushAll : Stmt := inClass (top 40) 10
abbrev sGetItem : Stmt := inClass (top 40) 14
abbrev sPutL : Stmt := inClass (top 41) 2
abbrev sOver : Stmt := inClass (top 42) 1
abbrev sPutC : Stmt := inClass (top 42) 2
abbrev sHoldAt : Stmt := top 45
abbrev sCardOf : Stmt := top 46
abbrev sCardsOf : Stmt := top 47
abbrev sOvertakings : Stmt := top 48
abbrev sCell : Stmt := top 50
abbrev sPen : Stmt := top 51
abbrev sDraw : Stmt := top 52
abbrev sLTable : Stmt := top 53
abbrev sTickRight : Stmt := top 54
abbrev sRight : Stmt := top 55
abbrev sBackRight : Stmt := top 56
abbrev sLaw : Stmt := top 57
/-! ### defs of the module: where they stand and what they promise -/
/-- the module's name x is a def of the text st that keeps the promise sp -/
structure Pr (P : Program) (w : World) (K : PySem.W.Frag) (mg : Str → Option Value) (base : Heap) (x : Str) (st : Stmt) (ps : List Str) (k : Nat) (sp : Sp) : Prop where
  ex : ∃ (f : Addr) (fd : FuncData), mg x = some (.ref f) ∧ Fun K x x st f fd ∧ Binds K fd ps [] ∧ FnOk P w K mg base CX0 k f fd ps sp
/-- where the def x of the text st stands -/
structure Df (K : PySem.W.Frag) (mg : Str → Option Value) (x : Str) (st : Stmt) (ps : List Str) : Prop where
  ex : ∃ (f : Addr) (fd : FuncData), mg x = some (.ref f) ∧ Fun K x x st f fd ∧ Binds K fd ps []
section
variable {P : Program} {w : World} {K : PySem.W.Frag} {mg : Str → Option Value} {base : Heap} {x : Str} {st : Stmt} {ps N : List Str} {j k : Nat} {sp : Sp}
theorem Pr.mono (h : Pr P w K mg base x st ps j sp) (l : j ≤ k) : Pr P w K mg base x st ps k sp := by
  obtain ⟨f, fd, a, b, c, d⟩ := h.ex
  exact ⟨f, fd, a, b, c, d.mono l⟩
/-- THE RULE for a def of the module -/
theorem Df.ok (D : Df K mg x st ps) (S : FnScope N ps (defScope st)) (len : ∀ vs H Q E, sp vs H Q E → vs.length = ps.length)
    (hbody : ∀ (f : Addr) (cdv : Value) (A : Around) (outer : List Env) (s : Shared) (H : Hp) (vs : List V) (Q : VK) (E : XK), Room k (A.deeper (envOfC x (defScope st) s.heap.objs.size f cdv)) → sp vs H Q E →
      ∃ t, PSs (cxOf CX0 P w K mg base N x (defScope st) f cdv A outer s H E).nox (defBody st) t ∧ t { nx := fun _ H' => Q .non H', rt := Q } (start N vs) H) : Pr P w K mg base x st ps (k + 1) sp := by
  obtain ⟨f, fd, a, F, b⟩ := D.ex
  exact ⟨f, fd, a, F, b, F.ok S len fun cdv A outer s H vs Q E hr h => hbody f cdv A outer s H vs Q E hr h⟩
end
section
variable {X : Cx} {x : Str} {st : Stmt} {ps : List Str} {k : Nat} {sp : Sp} {e : Expr} {es : List Expr} {t : TA} {p pos : Pos}
/-- a call of a def of the module -/
theorem pe_pr (h : Pr X.prog X.w X.K X.mg X.base x st ps k sp) (hr : Room k X.A) (ha : PA X (e :: es) t) (hg : Gl X x := by rfl) (hdb : (x == ("__debug__" : Str)) = false := by decide)
    (he : starEach (e :: es) X.env = (false, eval e X.env) :: starEach es X.env := by rfl) (hpl : (backTo pos (starEach es X.env)).any (·.1) = false := by rfl) :
    PE X (.Call (.Name x p) (e :: es) [] pos) (tCall sp [] E0 t) := by
  obtain ⟨f, fd, gm, F, b, G⟩ := h.ex
  exact pe_call G hr hg gm F.kp b .nil pass0 ha hdb he hpl
end
/-- what the module's names for built-in things stand for: nothing of its own -/
structure Bl (mg : Str → Option Value) : Prop where
  isinstance : mg "isinstance" = none
  int : mg "int" = none
  bool : mg "bool" = none
  str : mg "str" = none
  tuple : mg "tuple" = none
  list : mg "list" = none
  dict : mg "dict" = none
  len : mg "len" = none
  all : mg "all" = none
  sum : mg "sum" = none
  max : mg "max" = none
  min : mg "min" = none
  range : mg "range" = none
  enumerate : mg "enumerate" = none
  sorted : mg "sorted" = none
  super : mg "super" = none
/-! ### heaps -/
theorem Same.seqT {K : PySem.W.Frag} {H H' : Hp} {a : Addr} {xs : List V} (e : Same H H') (h : SqT K H a xs) : SqT K H' a xs := by
  rcases h with (h | ⟨o, h⟩) | h
  · exact .inl (.inl (e _ _ h))
  · exact .inl (.inr ⟨o, e _ _ h⟩)
  · exact .inr h
theorem same_upd {H : Hp} {p : Addr} {o : HO} (h : H p = none) : Same H (upd H p o) := fun b x e => by
  rw [upd_ne (ne_of_none e h)]
  exact e
/-- a table of ints, as values -/
abbrev tv (hs : List Nat) : List V := hs.map fun (h : Nat) => V.int (h : Int)
theorem tv_len {hs : List Nat} : (tv hs).length = hs.length := by simp
theorem tv_get {hs : List Nat} {i : Nat} {x : V} (h : (tv hs)[i]? = some x) : ∃ n, hs[i]? = some n ∧ x = .int (n : Int) := by
  rw [List.getElem?_map] at h
  cases e : hs[i]? with
  | none => rw [e] at h; cases h
  | some n => rw [e] at h; exact ⟨n, rfl, (Option.some.inj h).symm⟩
end BA
set_option maxHeartbeats 4000000
namespace BA
open PySem PySem.Spec PyProof.Rows PyProof L2
/-! ### sum and max of a tuple -/
section
variable {prog : Program} {w : World} {A : Around} {E : Value → Shared → Prop} {s : Shared}
theorem sumT_raw {t : Addr} {its : List Value} {ns : List Int} {Q : Value → Shared → Prop} (hh : A.handled = none) (hl : s.heap.IsTuple t its.toArray) (hi : IntsAre its ns)
    (h : ∀ h' tk t', (∀ b o, s.heap.get? b = some o → h'.get? b = some o) → Q (.int ns.sum t') { s with heap := h', toks := tk }) : wpAny (model prog w) A (call (.builtin "sum") [.ref t]) Q E s := by
  obtain ⟨xs, e⟩ := hi.allInts.items
  have hn : numsOf (intItems xs).toList = ns := by rw [← e]; exact hi.numsOf
  rw [nums_intItems] at hn
  rw [e] at hl
  refine PySem.W.ktm_sumG hh hl fun h' tk t' hk => ?_
  have q := h h' tk t' hk
  rw [preSum_eq, List.take_of_length_le (by simp), hn]
  exact q
theorem maxT_raw {t : Addr} {its : List Value} {ns : List Int} {Q : Value → Shared → Prop} (hh : A.handled = none) (hl : s.heap.IsTuple t its.toArray) (hi : IntsAre its ns) (hne : 0 < ns.length)
    (h : ∀ h' tk m t', (∀ b o, s.heap.get? b = some o → h'.get? b = some o) → m ∈ ns → (∀ a, a ∈ ns → a ≤ m) → Q (.int m t') { s with heap := h', toks := tk }) : wpAny (model prog w) A (call (.builtin "max") [.ref t]) Q E s := by
  obtain ⟨xs, e⟩ := hi.allInts.items
  have hn : numsOf (intItems xs).toList = ns := by rw [← e]; exact hi.numsOf
  rw [nums_intItems] at hn
  subst hn
  rw [e] at hl
  have hsz : 0 < xs.size := by simpa using hne
  obtain ⟨o, ho, hc, n, hd⟩ := id hl
  have nt : t ≠ s.heap.objs.size := Nat.ne_of_lt (Heap.lt_size ho)
  refine call_max_walk (wpAny_pyIter_tuple hl ?_)
  refine ⟨s.heap.objs.size, _, _, _, _, _, _, rfl, Walks.tuple (prog := prog) (w := w) (A := A.in1) hh s.heap.objs.size t nt (intItems xs), ⟨⟨_, Heap.get?_push_size _ rfl, rfl, rfl⟩, hl.at fun o q => Heap.get?_push_of_some _ q⟩, fun b hb => ?_,
    by simpa [intItems] using hsz, CmpOf.ints_gt (numAt xs) (fun _ _ => intItems_at), fun v h' tk hP hk => ?_⟩
  · rcases List.mem_cons.mp hb with rfl | hb
    · exact Heap.lt_size (Heap.get?_push_size _ rfl)
    · obtain rfl := List.mem_singleton.mp hb
      exact Heap.lt_size (Heap.get?_push_of_some _ ho)
  · have hP : (intItems xs)[argBest (fun i j => decide (numAt xs i > numAt xs j)) (xs.size - 1)]? = some v := by simpa [intItems] using hP
    obtain ⟨t', rfl⟩ := intItems_at hP
    obtain ⟨h1, h2⟩ := argBest_gt (numAt xs) (xs.size - 1)
    refine h h' tk _ t' (fun b o q => hk b o (fun hb => ?_) (Heap.get?_push_of_some _ q)) ?_ fun a ha => ?_
    · exact absurd (Heap.lt_size q) ((List.mem_singleton.mp hb) ▸ Nat.lt_irrefl _)
    · rw [numAt_eq]; exact PySem.getD_mem (by rw [List.length_map, Array.length_toList]; omega)
    · obtain ⟨j, hj, rfl⟩ := mem_getD ha
      rw [List.length_map, Array.length_toList] at hj
      rw [← numAt_eq]; exact h2 j (by omega)
end
def rSumT (K : PySem.W.Frag) : List V → Hp → VK → Prop := fun vs H Q => ∃ (a : Addr) (ns : List Int), vs = [V.ref a] ∧ SqT K H a (ns.map V.int) ∧ Q (.int ns.sum) H
def rMaxT (K : PySem.W.Frag) : List V → Hp → VK → Prop := fun vs H Q => ∃ (a : Addr) (ns : List Int), vs = [V.ref a] ∧ SqT K H a (ns.map V.int) ∧ 0 < ns.length ∧ ∀ m, m ∈ ns → (∀ y, y ∈ ns → y ≤ m) → Q (.int m) H
section
variable {X : Cx}
theorem cr_sumT (hc : X.calm = true) : CallR X (.builtin "sum") (rSumT X.K) := by
  intro pins s σ H vs us Q I r h
  obtain ⟨a, ns, rfl, hs, q⟩ := h
  obtain ⟨its, rv, hl, _⟩ := I.tuple hs
  rw [Vals.ref1 r]
  exact sumT_raw (I.ok.hd hc) (show s.heap.IsTuple a its.toArray from hl) rv.ints fun h' tk t' hk => ⟨.int _, H, I.kept hk, ⟨_, rfl⟩, q⟩
theorem cr_maxT (hc : X.calm = true) : CallR X (.builtin "max") (rMaxT X.K) := by
  intro pins s σ H vs us Q I r h
  obtain ⟨a, ns, rfl, hs, hne, q⟩ := h
  obtain ⟨its, rv, hl, _⟩ := I.tuple hs
  rw [Vals.ref1 r]
  exact maxT_raw (I.ok.hd hc) (show s.heap.IsTuple a its.toArray from hl) rv.ints hne fun h' tk m t' hk h1 h2 => ⟨.int _, H, I.kept hk, ⟨_, rfl⟩, q m h1 h2⟩
end
/-! ### enumerate of a tuple -/
set_option maxHeartbeats 1000000 in
theorem enumNewB {v : Value} {o : Obj} {H : Heap → Prop} (B : Begins v o H) :
    Meets (Builtin.«enumerate.__new__» ⟨[.type "enumerate", v], []⟩) (fun _ R s => H s.heap ∧
      R (.ok (.ret (.ref (s.heap.push o).objs.size))) { s with heap := (s.heap.push o).push { cls := .type "enumerate", data := .fields #[.none, .bool false, .ref s.heap.objs.size, rawInt 0, .none, .none] } }) :=
  .of_wp fun prog w A R s h => by
    obtain ⟨hp, g, d, tk, os⟩ := s
    obtain ⟨h1, h⟩ := h
    have hsub := sub_enumerate
    have q1 : ∀ {A' : Around} {E : Value → Shared → Prop} {Q : Value → Shared → Prop}, Q (.ref hp.objs.size) ⟨hp.push o, g, d, tk, os⟩ → wpAny (model prog w) A' (pyIter v) Q E ⟨hp, g, d, tk, os⟩ :=
      fun q => B.iter prog w _ _ ⟨hp, g, d, tk, os⟩ _ h1 q
    wp_walk using q1
    refine wpAny_stack_any fun st => wpAny_pure ?_
    split
    · rename_i c _ _ _ _ _
      cases (c == Value.type "enumerate")
      · wp_walk using q1
        exact ⟨_, rfl, h⟩
      · wp_walk using q1
        exact ⟨_, rfl, h⟩
    · wp_walk using q1
      exact ⟨_, rfl, h⟩
section
variable {prog : Program} {w : World} {A : Around} {E : Value → Shared → Prop} {s : Shared}
theorem enum1_begins {v : Value} {o : Obj} {H : Heap → Prop} {Q : Value → Shared → Prop} (B : Begins v o H) (h1 : H s.heap)
    (h : ∀ h', IsEnum h' (s.heap.objs.size + 1) s.heap.objs.size 0 .none → h'.get? s.heap.objs.size = some o → h'.objs.size = s.heap.objs.size + 2 →
      (∀ b o, s.heap.get? b = some o → h'.get? b = some o) → Q (.ref (s.heap.objs.size + 1)) { s with heap := h' }) :
    wpAny (model prog w) A (call (.type "enumerate") [v]) Q E s := by
  refine callType_new F.called_enumerate (by decide) (F.typeCall_enumerate_1 _) (F.newCall_enumerate_1 _) (fun obj => F.args_object_init_2 obj _) F.entry_enumerate_new (enumNewB B) ⟨h1, ?_⟩
  have hz : (s.heap.push o).objs.size = s.heap.objs.size + 1 := Heap.size_push ..
  show _ ∧ _
  rw [hz]
  have he : IsEnum ((s.heap.push o).push { cls := .type "enumerate", data := .fields #[.none, .bool false, .ref s.heap.objs.size, rawInt 0, .none, .none] }) (s.heap.objs.size + 1) s.heap.objs.size 0 .none := by
    have q := Heap.get?_push_size (s.heap.push o) (o := { cls := .type "enumerate", data := .fields #[.none, .bool false, .ref s.heap.objs.size, rawInt 0, .none, .none] }) rfl
    rw [hz] at q
    exact q
  exact ⟨⟨_, he, rfl⟩, h _ he (Heap.get?_push_of_some _ (Heap.get?_push_size _ B.free)) (by rw [Heap.size_push, hz]) fun b o x => Heap.get?_push_of_some _ (Heap.get?_push_of_some _ x)⟩
end
/-- the items of the tuple at a with their places, in new pairs -/
def ItE (K : PySem.W.Frag) (a : Addr) : It :=
  ⟨fun i H => ∃ xs x, SqT K H a xs ∧ xs[i]? = some x,
    fun i H v H' => ∃ T x, v = .ref T ∧ H T = none ∧ H' = upd H T (.tup [.int (i : Nat), x]) ∧ ∀ xs, SqT K H a xs → xs[i]? = some x,
    fun i H => ∃ xs, SqT K H a xs ∧ xs.length ≤ i⟩
theorem turn_enumT {P : Program} {w : World} {K : PySem.W.Frag} {elts : List Expr} {kk : Nat} {tpos : Pos} (a e it : Addr) :
    Turn P w K (.Tuple elts kk tpos) (ItE K a) [e, it] e (fun i h => (∃ old, IsEnum h e it ((i : Nat) : Int) old) ∧ h.IsTupleIter it a i ∧ e ≠ it) where
  mem := by simp
  obj := fun i h st b hb => by
    obtain ⟨⟨old, he⟩, ⟨o, ho, hc, hd⟩, _⟩ := st
    have e' : b = e ∨ b = it := by simpa using hb
    rcases e' with z | z
    · rw [z]; exact ⟨_, he, fun v q => nomatch q⟩
    · rw [z]; exact ⟨o, ho, fun v q => by rw [hd] at q; cases q⟩
  keep := fun i h h' st k => let ⟨⟨old, he⟩, hi, hne⟩ := st; ⟨⟨old, k e (by simp) _ he⟩, hi.at fun o q => k it (by simp) o q, hne⟩
  item := by
    intro X hP hw hK hc i pins s σ H E I hf st hg
    subst hP hw hK
    obtain ⟨⟨old, he⟩, hit, hne⟩ := st
    obtain ⟨xs, x, hq, hx⟩ := hg
    obtain ⟨its, rv, p, hz⟩ := I.tuple hq
    obtain ⟨u, hu, ru⟩ := rv.get hx
    have hta : s.heap.IsTuple a its.toArray := p
    have hel : e < s.heap.objs.size := Heap.lt_size he
    have hil : it < s.heap.objs.size := by obtain ⟨_, q, _⟩ := hit; exact Heap.lt_size q
    have nta : a ≠ it := fun z => by
      obtain ⟨o1, h1, c1, _⟩ := hit
      obtain ⟨o2, h2, c2, _⟩ := hta
      rw [z, h1] at h2
      cases h2
      rw [c1] at c2
      exact absurd c2 (by decide)
    have hef : e ∉ [it, a] := fun z => by
      have z' : e = it ∨ e = a := by simpa using z
      rcases z' with z' | z'
      · exact hne z'
      · obtain ⟨o2, h2, c2, _⟩ := hta
        rw [← z', he] at h2
        cases h2
        have c3 : Value.type "enumerate" = Value.type "tuple" := c2
        exact absurd c3 (by decide)
    refine wpAny_pyNext_enum_itemC (c := ((i : Nat) : Int)) (Draws.tuple (prog := X.prog) (w := X.w) (A := X.A.in1) (I.ok.hd hc) it a nta its.toArray) he ⟨hit, hta⟩ (by
      have := (List.getElem?_eq_some_iff.mp hu).1
      simpa using this) hne hef fun y h' tk hy ho hs' hT hsz hk => ?_
    have ey : y = u := by
      have hy : its.toArray[i]? = some y := hy
      have hu' : its.toArray[i]? = some u := by simpa using hu
      exact Option.some.inj (hy.symm.trans hu')
    subst ey
    refine ⟨_, rfl, wpAny_letOwnedTupleGo_enum (s := { s with heap := h', toks := tk + 1 }) ho fun h'' he' sb => ?_⟩
    have hT2 : h''.get? s.heap.objs.size = some { cls := .type "tuple", data := .seq #[.int i tk, y] } := (sb.2 _ (Nat.ne_of_gt hel)).trans hT
    have new : ObjOk X.prog X.w (upd H s.heap.objs.size (.tup [.int (i : Nat), x])) h'' s.heap.objs.size (.tup [.int (i : Nat), x]) :=
      ⟨by show 2 ≤ sizeLine; decide, [.int i tk, y], .cons ⟨_, rfl⟩ (.cons ru .nil), ⟨_, hT2, rfl, _, rfl⟩⟩
    have I1 : Inv X pins σ (upd H s.heap.objs.size (.tup [.int (i : Nat), x])) { s with heap := h'', toks := tk + 1 } :=
      I.turnedNew (ch := [e, it]) (fun b ob hb q => (sb.2 b (fun z => hb (by simp [z]))).trans (hk b ob (fun z => hb (by simp [z])) (fun z => hb (by simp [z])) q)) hf (Nat.le_refl _) new
    refine ⟨.ref s.heap.objs.size, _, I1, rfl, ⟨_, x, rfl, I.hok.fresh (Nat.le_refl _), rfl, fun ys hy => by rw [I.tuple_inj hy hq]; exact hx⟩, ⟨⟨y, ?_⟩, hs'.1.at fun o q => (sb.2 it (Ne.symm hne)).trans q, hne⟩, fun b hb => ?_⟩
    · have e1 : ((i + 1 : Nat) : Int) = (i : Int) + 1 := by omega
      rw [e1]; exact he'
    · have hb' : b < s.heap.objs.size := by
        have e' : b = e ∨ b = it := by simpa using hb
        rcases e' with z | z
        · rw [z]; exact hel
        · rw [z]; exact hil
      rw [upd_ne (Nat.ne_of_lt hb')]
      exact (hf b hb).1
  done := by
    intro X hP hw hK hc i pins s σ H E I hf st hg
    subst hP hw hK
    obtain ⟨⟨old, he⟩, hit, hne⟩ := st
    obtain ⟨xs, hq, hx⟩ := hg
    obtain ⟨its, rv, p, hz⟩ := I.tuple hq
    have hta : s.heap.IsTuple a its.toArray := p
    obtain ⟨f0, f1, f2, f3, f4, f5⟩ := hf it (by simp)
    have hl := rv.length
    have hT : s.TypeIs (.ref e) "enumerate" := ⟨_, he, rfl⟩
    unfold pyNext
    refine wpAny_bind (wpAny_attempt (wpAny_callSpecial?_slot (name := Str.ofString "__next__") hT F.slot_enumerate_next
      (wpAny_call_entry F.slot_enumerate_next hT F.entry_enumerate_next ?_ (F.args_enumerate_next_1 _))))
    show wpAny _ _ (field (.ref e) 2 >>= _) _ _ _
    refine wpAny_bind (wpAny_field he rfl (x := .ref it) rfl ?_)
    refine wpAny_bind (wpAny_nextOf_tuple_end (I.ok.hd hc) hit hta (by simp; omega) fun h' x he' hx' => ?_)
    obtain ⟨o, ho, hc'⟩ := hx'
    refine wpAny_bind (wpAny_isInstance (T := "StopIteration") (b := true) ⟨o, ho, hc'⟩ isSubtype_stop ?_)
    exact wpAny_pure ⟨rfl, I.turned (t' := s.toks) (fun b o hb q => he' b o hb q) f0 f1 f3 f4 f5⟩
  self := fun A i s Q E st h => let ⟨⟨_, he⟩, _⟩ := st; wpAny_pyIter_enum he h
def iEnT (K : PySem.W.Frag) (ta : TA) : TI := fun σ H R => ta σ H fun vs H1 => ∃ a xs, vs = [.ref a] ∧ SqT K H1 a xs ∧ R (ItE K a) H1
theorem pi_enT {X : Cx} {e : Expr} {ta : TA} {p pos tpos : Pos} {elts : List Expr} {kk : Nat} (hm : X.mg "enumerate" = none) (ha : PA X [e] ta) (hg : Gl X "enumerate" := by rfl) (hs : starEach [e] X.env = [(false, eval e X.env)] := by rfl) :
    PI X (.Tuple elts kk tpos) (.Call (.Name "enumerate" p) [e] [] pos) (iEnT X.K ta) := by
  refine ⟨fun pins s σ H R I h => ?_⟩
  refine Call_ (ld_blt I hg hm boot_enumerate (PyProof.Rows.callWith_type1 (thn (ha.run pos pins s σ H _ I h) fun us s1 ⟨vs, H1, I1, r1, q1⟩ => ?_) hs rfl))
  obtain ⟨a, xs, ex, hq, q⟩ := q1
  subst ex
  cases r1 with
  | cons r rr =>
    cases rr
    cases r
    obtain ⟨its, rv, p', hz⟩ := I1.tuple hq
    refine enum1_begins (begins_tuple a its.toArray) (show s1.heap.IsTuple a its.toArray from p') fun h' he hit hsz hk => wpAny_pyIter_enum he ?_
    have I2 : Inv X pins σ H1 { s1 with heap := h' } := I1.kept (t' := s1.toks) hk
    refine ⟨s1.heap.objs.size + 1, [s1.heap.objs.size + 1, s1.heap.objs.size], _, _, H1, rfl, I2, turn_enumT a (s1.heap.objs.size + 1) s1.heap.objs.size, ⟨⟨.none, he⟩, ⟨_, hit, rfl, rfl⟩, Nat.succ_ne_self _⟩, fun b hb => ?_, q⟩
    have e' : b = s1.heap.objs.size + 1 ∨ b = s1.heap.objs.size := by simpa using hb
    have hle : s1.heap.objs.size ≤ b := by
      rcases e' with z | z
      · rw [z]; exact Nat.le_add_right _ _
      · rw [z]; exact Nat.le_refl _
    exact I1.fpOk hle (I1.hok.fresh hle)
end BA
set_option maxHeartbeats 4000000
namespace BA
open PySem PySem.Spec PyProof.Rows PyProof L2
/-! ### {elt for target in iter}, elt an int -/
/-- D: the new set -/
def tScI (w : World) (wi : TI) (g : TG) (te : TE) (vs : List Nat) : TE := fun σ H Q => wi σ H fun J H1 => ∀ D, H1 D = none → ∃ W : Nat → Nat → Hp → Prop, (∃ m, W 0 m (upd H1 D (SetO w D (fun _ => false) 0))) ∧ ∀ i m H, W i m H →
  (J.stop i H ∧ Q (.ref D) H) ∨ (J.go i H ∧ ∃ Nx : Hp → Prop, (∀ H', Nx H' → ∃ m', m' < m ∧ W (i + 1) m' H') ∧ ∀ x H', J.yld i H x H' → g x (wipe σ vs) H' fun σ2 H2 => wipe σ2 vs = wipe σ vs ∧
    te σ2 H2 fun y H4 => ∃ (c : Int) (Z : Int → Bool) (n : Nat), y = .int c ∧ H4 D = some (SetO w D Z n) ∧ n + 1 < scanBound ∧ Nx (upd H4 D (SetO w D (fun j => Z j || decide (j = c)) (if Z c = true then n else n + 1))))
section
variable {X : Cx}
theorem pe_scI {elt tg iter : Expr} {scope : Scope} {own : List (PySem.Str × Nat)} {pos : Pos} {wi : TI} {g : TG} {te : TE} (hc : X.calm = true) (hN : X.N.Nodup) (hi : PI X tg iter wi) (ok : BlkOk X.N X.env.scope scope own)
    (hg : ∀ (s : Shared) (H : Hp) (C : Addr) (cl : List (PySem.Str × Addr)) (fp : List Addr), PG (X.blk s H scope (compEnvC scope cl C X.env) fp) tg g)
    (he : ∀ (s : Shared) (H : Hp) (C : Addr) (cl : List (PySem.Str × Addr)) (fp : List Addr), PE (X.blk s H scope (compEnvC scope cl C X.env) fp) elt te) (hs : ∀ x, foldedSetIterable iter X.env x = pure x := by intro _; rfl) :
    PE X (.SetComp elt [⟨tg, iter, [], 0⟩] scope pos) (tScI X.w wi g te (own.map (·.2))) := by
  refine ⟨fun pins s σ H Q I h => ?_⟩
  rw [PpSet.eval_SetComp]
  have hfree : ∀ y ∈ scope.names, y.2 = .free → ∃ c, X.env.cells.lookup y.1 = some c := fun y hy e => (ok.free y hy e).elim (fun k => I.ok.has _ (.inl k)) fun k => I.ok.has _ (.inr k)
  refine wpAny_comprehension_free rfl hs (closure_ok hfree) ok.kind (fun y hy e => by rw [ok.uniq y hy, e]) (thn (hi.run pins s σ H _ I h) fun xv s1 hx => thn hx fun itv s2 h2 => ?_)
  obtain ⟨it, fp, tn, J, H2, e, I2, T, st2, f2, q⟩ := h2
  subst e
  refine PpSet.newSet_ok (newEnv_comp ?_)
  generalize hD : s2.heap.objs.size = D
  have hDn : H2 D = none := I2.hok.fresh (Nat.le_of_eq hD)
  obtain ⟨W, ⟨m0, w0⟩, turn⟩ := q D hDn
  -- the new set
  generalize hs3 : ({ s2 with heap := s2.heap.push { cls := .type "set", dict := none, data := .set #[] 0 (.fresh 0 0 (!X.w.params.followText "set-order")) } } : Shared) = s3
  have I3 : Inv X pins σ (upd H2 D (SetO X.w D (fun _ => false) 0)) s3 := by
    rw [← hs3]
    refine I2.laid (t' := s2.toks) (fun b o e => Heap.get?_push_of_some _ e) (Nat.le_of_eq hD) ?_
    rw [← hD]
    exact setO_new (setR_fresh X.w)
  have h3 : s3.heap = s2.heap.push { cls := .type "set", dict := none, data := .set #[] 0 (.fresh 0 0 (!X.w.params.followText "set-order")) } := by rw [← hs3]
  have f3 : ∀ b ∈ fp, FpOk X pins (upd H2 D (SetO X.w D (fun _ => false) 0)) b ∧ b < s3.heap.objs.size := fun b hb => by
    obtain ⟨o, e, _⟩ := T.obj _ _ st2 b hb
    have hlt := Heap.lt_size e
    refine ⟨⟨?_, (f2 b hb).2⟩, by rw [h3, Heap.size_push]; exact Nat.lt_succ_of_lt hlt⟩
    rw [upd_ne (by rw [← hD]; exact Nat.ne_of_lt hlt)]
    exact (f2 b hb).1
  have st3 : tn 0 s3.heap := T.keep _ _ _ st2 fun b _ o e => by rw [h3]; exact Heap.get?_push_of_some _ e
  have I4 := block_start I3 ok hN f3
  generalize hcl : cellsFrom (s3.heap.objs.size + 1) scope.names (cloFrom X.env.cells scope.names []) = cl at I4
  generalize hH3 : upd H2 D (SetO X.w D (fun _ => false) 0) = H3 at I3 I4 w0 f3
  have pg := hg s3 H3 s3.heap.objs.size cl fp
  have pe := he s3 H3 s3.heap.objs.size cl fp
  show codeAny _ _ (.compStart (.SetComp elt [⟨tg, iter, [], 0⟩] scope pos) 0 (.ref it) (.ref D) (compEnvC scope cl s3.heap.objs.size X.env)) (compPost (model X.prog X.w) X.A X.xe none (EP X pins σ Q) (.ref D) s3.heap.objs.size) { s3 with heap := pushCells (s3.heap.push { cls := .type "dict", data := .dict #[] }) scope.names }
  generalize hce : compEnvC scope cl s3.heap.objs.size X.env = ce at I4 pg pe ⊢
  have cL : ce.locals = s3.heap.objs.size := by subst hce; rfl
  generalize hs4 : ({ s3 with heap := pushCells (s3.heap.push { cls := .type "dict", data := .dict #[] }) scope.names } : Shared) = s4 at I4 ⊢
  have st4 : tn 0 s4.heap := T.keep _ _ _ st3 fun b _ o e => by rw [← hs4]; exact pushCells_keeps _ _ _ _ (Heap.get?_push_of_some _ e)
  have stat : ∀ {σ' : L2.St} {H' : Hp} {s' : Shared}, Inv (X.blk s3 H3 scope ce fp) [] σ' H' s' → (∀ b ∈ fp, H' b = none) → ∀ b ∈ fp, FpOk (X.blk s3 H3 scope ce fp) [] H' b := fun {σ' H' s'} I' hn b hb =>
    ⟨hn b hb, (I'.ok.exf b hb).1, I'.ok.exfs b hb, .inl hb, fun x c e => (I'.ok.exf b hb).2 x c e, fun p hp => absurd (show p ∈ ([] : List (Addr × Obj)) ++ [] from hp) (by simp)⟩
  have loop : codeAny (model X.prog X.w) X.A (.compLoop (.SetComp elt [⟨tg, iter, [], 0⟩] scope pos) 0 (.ref it) (.ref D) ce) (compPost (model X.prog X.w) X.A X.xe none (EP X pins σ Q) (.ref D) s3.heap.objs.size) s4 := by
    refine PpSet.compLoopS_any (fun n s' => ∃ i H', Inv (X.blk s3 H3 scope ce fp) [] (wipe σ (own.map (·.2))) H' s' ∧ tn i s'.heap ∧ (∀ b ∈ fp, H' b = none) ∧ W i n H') ?_ m0 ⟨0, H3, I4, st4, fun b hb => (f3 b hb).1.1, w0⟩
    rintro n s5 ⟨i, H5, I5, st5, n5, w5⟩
    rcases turn i n H5 w5 with ⟨stop, qq⟩ | ⟨go, Nx, hNx, step⟩
    · refine thnF (T.done (X.blk s3 H3 scope ce fp) rfl rfl rfl hc i [] s5 _ H5 (fun _ _ => False) I5 (stat I5 n5) st5 stop) fun r s6 ⟨hr, I6⟩ => ?_
      subst hr
      -- back in the def's frame
      have I7 : Inv X pins σ H5 s6 := I3.call' (ch := fp) I6.os I6.base I6.hok I6.bare fun b hb => ⟨(f3 b hb).1.2.2.2.1, (f3 b hb).1.2.1, (f3 b hb).1.2.2.2.2.1, (f3 b hb).1.2.2.2.2.2⟩
      have nC : H5 s3.heap.objs.size = none := cL ▸ (show H5 ce.locals = none from I6.free)
      obtain ⟨m, hn, _⟩ := I6.loc
      obtain ⟨f0, f1, _, f3', f4, f5⟩ := I3.fpOk (Nat.le_refl _) nC
      exact ⟨m, cL ▸ hn, fun h'' sb => ⟨.ref D, H5, I7.turned (t' := s6.toks) (fun b o hb e => (sb.2 b hb).trans e) f0 f1 f3' f4 f5, rfl, qq⟩⟩
    · refine thnF (T.item (X.blk s3 H3 scope ce fp) rfl rfl rfl hc i [] s5 _ H5 (fun _ _ => False) I5 (stat I5 n5) st5 go) fun r s6 ⟨u, hr, h6⟩ => ?_
      subst hr
      refine thnF h6 fun _ s7 ⟨x, H7, I7, r7, y7, st7, n7⟩ => ?_
      have I7' := I7.pinned (stat I7 n7) (T.obj _ _ st7)
      refine thnF (pg.run _ s7 _ H7 x u _ I7' r7 (step x H7 y7)) fun _ s8 ⟨σ8, H8, I8, hw8, q8⟩ => ?_
      refine wpAny_tests_nil ?_
      rw [if_pos rfl]
      refine thnF (pe.run _ s8 σ8 H8 _ I8 q8) fun z s10 ⟨yv, H10, I10, r10, cb, Z0, n0, ey, hD10, hz10, nx⟩ => ?_
      subst ey
      have add := (mt_sadd (X := X.blk s3 H3 scope ce fp)) _ s10 σ8 H10 (.ref D) [.int cb] (.ref D) [z] (fun _ H' => Nx H') I10 rfl (.cons r10 .nil) ⟨D, cb, Z0, n0, rfl, rfl, hD10, hz10, nx⟩
      refine thnF add fun _ s' ⟨_, H', I', _, nx'⟩ => ?_
      obtain ⟨m', hm, w'⟩ := hNx H' nx'
      have pin' : ∀ b ∈ fp, ∀ o, s7.heap.get? b = some o → s'.heap.get? b = some o ∧ H' b = none := fun b hb o e =>
        let z := I'.pin (b, o) (List.mem_append_right _ (List.mem_append_right _ (mem_pinsAt hb e)))
        ⟨z.1, z.2.1⟩
      refine ⟨m', hm, i + 1, H', (I'.unpinned (pins := [])).weak (by rw [← hw8, wipe_length]) (fun j v e => ?_), T.keep _ _ _ st7 fun b hb o e => (pin' b hb o e).1, fun b hb => ?_, w'⟩
      · rw [← hw8] at e
        exact (wipe_some e).1
      · obtain ⟨o, e, _⟩ := T.obj _ _ st7 b hb
        exact (pin' b hb o e).2
  exact PpSet.codeAny_compStart_set loop (T.self X.A 0 _ _ _ st4 loop)
/-- over the places and items of a tuple that the block leaves as it is -/
theorem scI_enum {w : World} {K : PySem.W.Frag} {a : Addr} {xs : List V} {g : TG} {te : TE} {vs : List Nat} {σ : L2.St} {H1 : Hp} {D : Addr} {Qd : Hp → Prop} (Pv : Nat → Hp → Prop) (h0 : Pv 0 (upd H1 D (SetO w D (fun _ => false) 0))) (hl : ∀ i H, i ≤ xs.length → Pv i H → SqT K H a xs)
    (hs : ∀ i x T H, xs[i]? = some x → Pv i H → H T = none → g (.ref T) (wipe σ vs) (upd H T (.tup [.int (i : Nat), x])) fun σ2 H2 => wipe σ2 vs = wipe σ vs ∧
      te σ2 H2 fun y H4 => ∃ (c : Int) (Z : Int → Bool) (n : Nat), y = .int c ∧ H4 D = some (SetO w D Z n) ∧ n + 1 < scanBound ∧ Pv (i + 1) (upd H4 D (SetO w D (fun j => Z j || decide (j = c)) (if Z c = true then n else n + 1)))) (hd : ∀ H, Pv xs.length H → Qd H) :
    ∃ W : Nat → Nat → Hp → Prop, (∃ m, W 0 m (upd H1 D (SetO w D (fun _ => false) 0))) ∧ ∀ i m H, W i m H →
      ((ItE K a).stop i H ∧ Qd H) ∨ ((ItE K a).go i H ∧ ∃ Nx : Hp → Prop, (∀ H', Nx H' → ∃ m', m' < m ∧ W (i + 1) m' H') ∧ ∀ x H', (ItE K a).yld i H x H' → g x (wipe σ vs) H' fun σ2 H2 => wipe σ2 vs = wipe σ vs ∧
        te σ2 H2 fun y H4 => ∃ (c : Int) (Z : Int → Bool) (n : Nat), y = .int c ∧ H4 D = some (SetO w D Z n) ∧ n + 1 < scanBound ∧ Nx (upd H4 D (SetO w D (fun j => Z j || decide (j = c)) (if Z c = true then n else n + 1)))) := by
  refine ⟨fun i m H => m = xs.length - i ∧ i ≤ xs.length ∧ Pv i H, ⟨xs.length, by simp, Nat.zero_le _, h0⟩, ?_⟩
  rintro i m H ⟨rfl, hi, p⟩
  have q := hl i H hi p
  by_cases hlt : i < xs.length
  · refine .inr ⟨⟨xs, xs[i], q, by simp [hlt]⟩, Pv (i + 1), fun H' p' => ⟨xs.length - (i + 1), by omega, rfl, hlt, p'⟩, fun v H' y => ?_⟩
    obtain ⟨T, x, rfl, nT, rfl, hx⟩ := y
    exact hs i x T _ (hx xs q) p nT
  · have e : i = xs.length := by omega
    subst e
    exact .inl ⟨⟨xs, q, Nat.le_refl _⟩, hd H p⟩
/-- for place, item in enumerate(t): over a tuple that the body leaves as it is -/
theorem for_enT {K : PySem.W.Frag} {a : Addr} {xs : List V} {g : TG} {tb : TS} {D : Ends} {σ : L2.St} {H : Hp} (Pv : Nat → L2.St → Hp → Prop) (h0 : Pv 0 σ H) (hl : ∀ i σ H, i ≤ xs.length → Pv i σ H → SqT K H a xs)
    (hs : ∀ i x T σ H, xs[i]? = some x → Pv i σ H → H T = none → g (.ref T) σ (upd H T (.tup [.int (i : Nat), x])) fun σ2 H2 => tb { D with nx := Pv (i + 1), ct := Pv (i + 1), bk := D.nx } σ2 H2) (hd : ∀ σ H, Pv xs.length σ H → D.nx σ H) :
    ∃ W : Nat → Nat → L2.St → Hp → Prop, (∃ m, W 0 m σ H) ∧ ∀ i m σ H, W i m σ H →
      ((ItE K a).stop i H ∧ D.nx σ H) ∨ ((ItE K a).go i H ∧ ∃ N : L2.St → Hp → Prop, (∀ σ' H', N σ' H' → ∃ m', m' < m ∧ W (i + 1) m' σ' H') ∧ ∀ x H', (ItE K a).yld i H x H' → g x σ H' fun σ2 H2 => tb { D with nx := N, ct := N, bk := D.nx } σ2 H2) := by
  refine ⟨fun i m σ H => m = xs.length - i ∧ i ≤ xs.length ∧ Pv i σ H, ⟨xs.length, by simp, Nat.zero_le _, h0⟩, ?_⟩
  rintro i m σ H ⟨rfl, hi, p⟩
  have q := hl i σ H hi p
  by_cases hlt : i < xs.length
  · refine .inr ⟨⟨xs, xs[i], q, by simp [hlt]⟩, Pv (i + 1), fun σ' H' p' => ⟨xs.length - (i + 1), by omega, rfl, hlt, p'⟩, fun v H' y => ?_⟩
    obtain ⟨T, x, rfl, nT, rfl, hx⟩ := y
    exact hs i x T σ _ (hx xs q) p nT
  · have e : i = xs.length := by omega
    subst e
    exact .inl ⟨⟨xs, q, Nat.le_refl _⟩, hd σ H p⟩
end
end BA
set_option maxHeartbeats 4000000
namespace BA
open PySem PySem.Spec PyProof.Rows PyProof L2
section
variable {X : Cx}
theorem cr_lenSet : CallR X (.builtin "len") (fun xs H Q => ∃ a Z n, xs = [V.ref a] ∧ H a = some (SetO X.w a Z n) ∧ n ≤ 1000 ∧ Q (.int n) H) := by
  intro pins s σ H xs us Q I r h
  obtain ⟨a, Z, n, rfl, ha, hn, q⟩ := h
  obtain ⟨u, rfl, ru⟩ := vals1 r
  cases ru
  obtain ⟨o, es, ep, t, ho, hex, hd, _, _, _, _, hf, hz, _⟩ := setO_get I ha
  refine call_len_set ho hex hd hf (by rw [hz]; omega) ⟨.int n, H, I.tok _, ⟨_, by rw [hz]⟩, q⟩
end
section
variable {X : Cx}
/-- the written part named, for blocks -/
theorem cr_len (K : PySem.W.Frag) (h : X.K = K := by rfl) : CallR X (.builtin "len") (fun xs H Q => ∃ p ys, xs = [V.ref p] ∧ (SqL K H p ys ∨ SqT K H p ys) ∧ Q (.int ys.length) H) := h ▸ call_len_seq
theorem pg_tupK (K : PySem.W.Frag) (n : Nat) {es : List Expr} {k : Nat} {t : TGs} {pos : Pos} (hc : X.calm = true) (h : PGs X es t) (hK : X.K = K := by rfl)
    (hn : (assignEach es X.env).length = n := by rfl) (hst : (assignEach es X.env).findIdx? (·.1) = none := by rfl) : PG X (.Tuple es k pos) (gTup K n t) := hK ▸ pg_tup hc h hn hst
theorem ix_tupK (K : PySem.W.Frag) (h : X.K = K := by rfl) : IxR X (fun x y H Q => ∃ p xs i v, x = V.ref p ∧ y = V.int i ∧ SqT K H p xs ∧ atI xs i = some v ∧ Q v H) := h ▸ ix_tup
end
/-! ### promises: what is handed back, all that was tracked is as it was -/
def spInt : Sp := fun vs H Q _ => ∃ i : Int, vs = [.int i] ∧ Q (.bl true) H
def spBetween : Sp := fun vs H Q _ => ∃ i lo hi : Int, vs = [.int i, .int lo, .int hi] ∧ lo ≤ i ∧ i ≤ hi ∧ Q (.bl true) H
def spOnto (K : PySem.W.Frag) : Sp := fun vs H Q _ => ∃ (a : Addr) (hs : List Nat), vs = [.ref a] ∧ SqT K H a (tv hs) ∧ Tab hs ∧ ∀ H', Same H H' → Q (.bl true) H'
def spNeedT (K : PySem.W.Frag) : Sp := fun vs H Q _ => ∃ (a : Addr) (hs : List Nat), vs = [.ref a] ∧ SqT K H a (tv hs) ∧ Tab hs ∧ ∀ H', Same H H' → Q .non H'
def spNeedI : Sp := fun vs H Q _ => ∃ i : Int, vs = [.int i] ∧ Q .non H
def spHold (K : PySem.W.Frag) : Sp := fun vs H Q _ => ∃ (a : Addr) (hs : List Nat) (t : Int), vs = [.ref a, .int t] ∧ SqT K H a (tv hs) ∧ Tab hs ∧ Q (.int (hold hs t)) H
def spOut (K : PySem.W.Frag) : Sp := fun vs H Q _ => ∃ (a : Addr) (hs : List Nat) (t : Int), vs = [.ref a, .int t] ∧ SqT K H a (tv hs) ∧ Tab hs ∧ Q (.int (out hs t)) H
def spThing (K : PySem.W.Frag) : Sp := fun vs H Q _ => ∃ (a : Addr) (hs : List Nat) (u : Int), vs = [.ref a, .int u] ∧ SqT K H a (tv hs) ∧ Tab hs ∧ Q (.int (thing hs u)) H
def spHeldOf (K : PySem.W.Frag) : Sp := fun vs H Q _ => ∃ (a : Addr) (hs : List Nat), vs = [.ref a] ∧ SqT K H a (tv hs) ∧ Tab hs ∧ Q (.int (heldOf hs)) H
/-- the same of functions that look first whether it is a table -/
def spOutAt (K : PySem.W.Frag) : Sp := fun vs H Q _ => ∃ (a : Addr) (hs : List Nat) (t : Int), vs = [.ref a, .int t] ∧ SqT K H a (tv hs) ∧ Tab hs ∧ ∀ H', Same H H' → Q (.int (out hs t)) H'
def spThingAt (K : PySem.W.Frag) : Sp := fun vs H Q _ => ∃ (a : Addr) (hs : List Nat) (u : Int), vs = [.ref a, .int u] ∧ SqT K H a (tv hs) ∧ Tab hs ∧ ∀ H', Same H H' → Q (.int (thing hs u)) H'
def spHeld (K : PySem.W.Frag) : Sp := fun vs H Q _ => ∃ (a : Addr) (hs : List Nat), vs = [.ref a] ∧ SqT K H a (tv hs) ∧ Tab hs ∧ ∀ H', Same H H' → Q (.int (heldOf hs)) H'
def spDelay (K : PySem.W.Frag) : Sp := fun vs H Q _ => ∃ (a : Addr) (hs : List Nat), vs = [.ref a] ∧ SqT K H a (tv hs) ∧ Tab hs ∧ ∀ H', Same H H' → Q (.int (mx hs : Nat)) H'
/-- the holds of the table that brings all into order -/
def IsBack (hs bs : List Nat) : Prop := bs.length = hs.length ∧ ∀ i, i < hs.length → bs.getD (pl hs i) 0 = mx hs - hs.getD i 0
def spBack (K : PySem.W.Frag) : Sp := fun vs H Q _ => ∃ (a : Addr) (hs : List Nat), vs = [.ref a] ∧ SqT K H a (tv hs) ∧ Tab hs ∧ ∀ H' p bs, Same H H' → H' p = some (.tup (tv bs)) → IsBack hs bs → Q (.ref p) H'
theorem tv_ints (hs : List Nat) : tv hs = (hs.map fun (h : Nat) => (h : Int)).map V.int := by
  rw [List.map_map]
  rfl
section
variable {P : Program} {w : World} {K : PySem.W.Frag} {mg : Str → Option Value} {base : Heap}
theorem scIsInteger : FnScope ["thing"] ["thing"] (defScope sIsInteger) := ⟨rfl, rfl, rfl, by decide +kernel, rfl, by decide +kernel, by decide +kernel⟩
theorem ok_isInteger (D : Df K mg "is_integer" sIsInteger ["thing"]) (B : Bl mg) : Pr P w K mg base "is_integer" sIsInteger ["thing"] 1 spInt := by
  refine D.ok scIsInteger (fun vs H Q E h => ?_) (fun f cdv A outer s H vs Q E hr h => ?_)
  · obtain ⟨i, rfl, _⟩ := h
    rfl
  · obtain ⟨i, rfl, q⟩ := h
    refine ⟨_, pss_one (ps_ret (pe_and (pe_callB call_isi rfl B.isinstance boot_isinstance (pa_cons (pv 0) (pa_cons (pe_bltn (v := .ty "int") rfl B.int (by decide +kernel) rfl) pa_nil)))
      (pe_one (pe_not (pe_callB call_isi rfl B.isinstance boot_isinstance (pa_cons (pv 0) (pa_cons (pe_bltn (v := .ty "bool") rfl B.bool (by decide +kernel) rfl) pa_nil))))))), ?_⟩
    refine ⟨_, rfl, _, _, _, _, true, rfl, .ty _, .base (.int i), kit_ty (by decide +kernel), true, rfl, iteT ?_⟩
    exact ⟨_, rfl, _, _, _, _, false, rfl, .ty _, .base (.int i), kit_ty (by decide +kernel), false, rfl, q⟩
theorem scIsBetween : FnScope ["thing", "low", "high"] ["thing", "low", "high"] (defScope sIsBetween) := ⟨rfl, rfl, rfl, by decide +kernel, rfl, by decide +kernel, by decide +kernel⟩
theorem ok_isBetween (D : Df K mg "is_between" sIsBetween ["thing", "low", "high"]) (G : Pr P w K mg base "is_integer" sIsInteger ["thing"] 1 spInt) : Pr P w K mg base "is_between" sIsBetween ["thing", "low", "high"] 2 spBetween := by
  refine D.ok scIsBetween (fun vs H Q E h => ?_) (fun f cdv A outer s H vs Q E hr h => ?_)
  · obtain ⟨i, lo, hi, rfl, _⟩ := h
    rfl
  · obtain ⟨i, lo, hi, rfl, h1, h2, q⟩ := h
    refine ⟨_, pss_one (ps_ret (pe_and (pe_pr G hr (pa_cons (pv 0) pa_nil)) (pe_one (pe_chain op_le op_le (pv 1) (pv 0) (pv 2))))), ?_⟩
    refine ⟨_, rfl, i, rfl, true, rfl, iteT ?_⟩
    refine ⟨_, rfl, _, rfl, _, _, rfl, rfl, _, rfl, ?_⟩
    rw [decide_eq_true h1]
    refine iteT ⟨_, rfl, _, _, rfl, rfl, ?_⟩
    show Q (.bl (decide (i ≤ hi))) H
    rw [decide_eq_true h2]
    exact q
/-! ### is_onto -/
theorem scIsOnto : FnScope ["holds", "place", "hold"] ["holds"] (defScope sIsOnto) := ⟨rfl, rfl, rfl, by decide +kernel, rfl, by decide +kernel, by decide +kernel⟩
theorem ok_isOnto (D : Df K mg "is_onto" sIsOnto ["holds"]) (B : Bl mg) : Pr P w K mg base "is_onto" sIsOnto ["holds"] 1 (spOnto K) := by
  refine D.ok scIsOnto (fun vs H Q E h => ?_) (fun f cdv A outer s H vs Q E hr h => ?_)
  · obtain ⟨a, hs, rfl, _⟩ := h
    rfl
  · obtain ⟨a, hs, rfl, hT, T, q⟩ := h
    refine ⟨_, pss_one (ps_ret (pe_cmpR op_eq (pe_callB cr_lenSet rfl B.len PySem.boot_len (pa_cons (pe_scI (own := [("place", 1), ("hold", 2)]) rfl scIsOnto.nd (pi_enT B.enumerate (pa_cons (pv 0) pa_nil)) (blkOk_by (N := ["holds", "place", "hold"]) (sc := defScope sIsOnto) (by decide +kernel))
        (fun _ _ _ _ _ => pg_tupK K 2 rfl (pgs_cons (pg_name (i := 1) scIsOnto.nd rfl (Or.inl rfl) (Or.inr rfl)) (pgs_cons (pg_name (i := 2) scIsOnto.nd rfl (Or.inl rfl) (Or.inr rfl)) pgs_nil)))
        (fun _ _ _ _ _ => pe_op op_mod (pe_op op_add (pv 1) (pv 2)) (pe_callB (cr_len K) rfl B.len PySem.boot_len (pa_cons (pv 0) pa_nil)))) pa_nil))
      (pe_callB call_len_seq rfl B.len PySem.boot_len (pa_cons (pv 0) pa_nil)) (nomark _))), ?_⟩
    have hn := T.len
    -- the set so far: the places that the first i things go to
    refine ⟨_, rfl, a, _, rfl, hT, fun d nd => ?_⟩
    refine scI_enum (w := w) (K := K) (a := a) (xs := tv hs) (fun i H' => Same H H' ∧ ∃ Z : Int → Bool, H' d = some (SetO w d Z i) ∧ ∀ c : Int, Z c = true ↔ ∃ j : Nat, j < i ∧ c = (pl hs j : Nat))
      ⟨same_upd nd, _, upd_same, fun c => ⟨fun z => (nomatch z), fun ⟨j, h, _⟩ => (by omega)⟩⟩ (fun i H' _ ⟨sm, _⟩ => Same.seqT sm hT) ?_ ?_
    · rintro i x t H' hx ⟨sm, Z, hd, hZ⟩ nt
      obtain ⟨h, eh, rfl⟩ := tv_get hx
      have hi : i < hs.length := (List.getElem?_eq_some_iff.mp eh).1
      have gd : hs.getD i 0 = h := by rw [List.getD_eq_getElem?_getD, eh]; rfl
      have sm2 : Same H (upd H' t (.tup [.int (i : Nat), .int (h : Int)])) := sm.trans (same_upd nt)
      have hT2 := Same.seqT sm2 hT
      refine ⟨t, _, rfl, SqT.of upd_same, rfl, _, _, rfl, _, _, rfl, rfl, rfl, ?_⟩
      refine ⟨_, rfl, _, rfl, _, _, rfl, rfl, _, rfl, a, _, rfl, .inr hT2, _, _, rfl, rfl, (by show (0 : Int) < ((tv hs).length : Nat); rw [tv_len]; have := T.pos; omega), ?_⟩
      have ec : ((i : Int) + (h : Int)) % (((tv hs).length : Nat) : Int) = (pl hs i : Nat) := by
        rw [tv_len]
        unfold pl
        rw [gd, Int.natCast_emod, Int.natCast_add]
      refine ⟨_, Z, i, rfl, ?_, (by unfold scanBound; omega), ?_, ?_⟩
      · rw [upd_ne (ne_of_none hd nt)]
        exact hd
      · intro b o e
        have nb : b ≠ d := fun z => by rw [z, nd] at e; cases e
        rw [upd_ne nb]
        exact sm2 _ _ e
      · have nZ : ¬ Z (pl hs i : Nat) = true := fun z => by
          obtain ⟨j, hj, e⟩ := (hZ _).mp z
          have := T.inj i j hi (by omega) (by omega)
          omega
        refine ⟨fun j => Z j || decide (j = (pl hs i : Nat)), ?_, fun c => ?_⟩
        · rw [ec, if_neg nZ, upd_same]
        · show (Z c || decide (c = (pl hs i : Nat))) = true ↔ _
          rw [Bool.or_eq_true, hZ]
          constructor
          · rintro (⟨j, h1, h2⟩ | z)
            · exact ⟨j, by omega, h2⟩
            · exact ⟨i, by omega, of_decide_eq_true z⟩
          · rintro ⟨j, h1, h2⟩
            by_cases e : j = i
            · exact .inr (decide_eq_true (by rw [h2, e]))
            · exact .inl ⟨j, by omega, h2⟩
    · rintro H' ⟨sm, Z, hd, _⟩
      refine ⟨d, Z, _, rfl, hd, by rw [tv_len]; omega, ?_⟩
      refine ⟨_, rfl, a, _, rfl, .inr (Same.seqT sm hT), rfl, ?_⟩
      have e : decide (V.int (((tv hs).length : Nat) : Int) = V.int (((tv hs).length : Nat) : Int)) = true := decide_eq_true rfl
      show Q (.bl (decide _)) H'
      rw [e]
      exact q H' sm
/-! ### is_table, need_table, need_integer -/
theorem scIsTable : FnScope ["thing", "hold"] ["thing"] (defScope sIsTable) := ⟨rfl, rfl, rfl, by decide +kernel, rfl, by decide +kernel, by decide +kernel⟩
theorem ok_isTable (D : Df K mg "is_table" sIsTable ["thing"]) (B : Bl mg) {tL tG : Tok} (cL : mg "LONGEST" = some (.int 24 tL)) (cG : mg "GREATEST_HOLD" = some (.int 60 tG))
    (GB : Pr P w K mg base "is_between" sIsBetween ["thing", "low", "high"] 2 spBetween) (GO : Pr P w K mg base "is_onto" sIsOnto ["holds"] 2 (spOnto K)) : Pr P w K mg base "is_table" sIsTable ["thing"] 3 (spOnto K) := by
  refine D.ok scIsTable (fun vs H Q E h => ?_) (fun f cdv A outer s H vs Q E hr h => ?_)
  · obtain ⟨a, hs, rfl, _⟩ := h
    rfl
  · obtain ⟨a, hs, rfl, hT, T, q⟩ := h
    refine ⟨_, pss_cons (ps_if (PW.pt (pw_or (pt_not (pt_val (pe_callB call_isi rfl B.isinstance boot_isinstance (pa_cons (pv 0) (pa_cons (pe_bltn (v := .ty "tuple") rfl B.tuple (by decide +kernel) rfl) pa_nil)))))
        (pw_or1 (pt_not (pt_chain op_le op_le pe_int (pe_callB call_len_seq rfl B.len PySem.boot_len (pa_cons (pv 0) pa_nil)) (pe_glob (v := .int 24) rfl cL ⟨_, rfl⟩)))))) (pss_one (ps_ret pe_bl)) pss_nil)
      (pss_one (ps_ret (pe_and (pe_callB (cr_all rfl) rfl B.all boot_all (pa_cons (pe_lc (own := [("hold", 1)]) (g := gName 1) (tt := tYes) rfl scIsTable.nd (pi_tup (pv 0)) (blkOk_by (N := ["thing", "hold"]) (sc := defScope sIsTable) (by decide +kernel))
          (fun _ _ _ _ _ => pg_name (i := 1) scIsTable.nd rfl (Or.inl rfl)) (fun _ _ _ _ _ => pts_nil) (fun _ _ _ _ _ => pe_pr GB hr (pa_cons (pv 1) (pa_cons pe_int (pa_cons (pe_glob (v := .int 60) rfl cG ⟨_, rfl⟩) pa_nil))))) pa_nil))
        (pe_one (pe_pr GO hr (pa_cons (pv 0) pa_nil)))))), ?_⟩
    have ty : TyX K H (.ref a) (.type "tuple") := by
      rcases hT with (e | ⟨o, e⟩) | ⟨o, its, n, e, c, _⟩
      · exact .base (.tup e)
      · exact .fTuple e
      · exact .kTuple e c
    refine ⟨_, rfl, _, _, _, _, true, rfl, .ty _, ty, kit_ty (by decide +kernel), true, rfl, iteF ?_⟩
    have h1 : decide ((1 : Int) ≤ (((tv hs).length : Nat) : Int)) = true := decide_eq_true (by rw [tv_len]; have := T.pos; omega)
    have h2 : decide ((((tv hs).length : Nat) : Int) ≤ 24) = true := decide_eq_true (by rw [tv_len]; have := T.len; omega)
    refine ⟨_, rfl, a, _, rfl, .inr hT, _, _, rfl, rfl, _, rfl, ?_⟩
    rw [h1]
    refine iteT ⟨_, _, rfl, rfl, _, rfl, ?_⟩
    rw [h2]
    refine iteF ?_
    refine ⟨_, rfl, a, rfl, ⟨_, hT⟩, fun d nd => ?_⟩
    have hn := T.len
    refine lc_tup (K := K) (a := a) (xs := tv hs) (fun i H' => Same H H' ∧ H' d = some (.lst (List.replicate i (V.bl true)))) ⟨same_upd nd, upd_same⟩ (fun i H' _ ⟨sm, _⟩ => Same.seqT sm hT) ?_ ?_
    · rintro i x H' hx ⟨sm, hd⟩
      obtain ⟨h, eh, rfl⟩ := tv_get hx
      have hi : i < hs.length := (List.getElem?_eq_some_iff.mp eh).1
      have hm := T.le h (List.mem_of_getElem? eh)
      refine ⟨rfl, _, rfl, _, _, _, rfl, by omega, by omega, _, hd, ?_, ?_, ?_⟩
      · rw [List.length_replicate]
        exact small1000 (by omega)
      · intro b o e
        have nb : b ≠ d := fun z => by rw [z, nd] at e; cases e
        rw [upd_ne nb]
        exact sm _ _ e
      · rw [upd_same, List.replicate_succ']
    · rintro H' ⟨sm, hd⟩
      refine ⟨d, List.replicate (tv hs).length true, rfl, SqL.of ?_, true, ?_, iteT ⟨_, rfl, a, hs, rfl, Same.seqT sm hT, T, fun H2 s2 => q H2 (sm.trans s2)⟩⟩
      · rw [List.map_replicate]
        exact hd
      · congr 1
        rw [List.all_eq_true]
        intro b hb
        exact (List.eq_of_mem_replicate hb)
theorem scNeedT : FnScope ["table"] ["table"] (defScope sNeedTable) := ⟨rfl, rfl, rfl, by decide +kernel, rfl, by decide +kernel, by decide +kernel⟩
theorem ok_needTable (D : Df K mg "need_table" sNeedTable ["table"]) (G : Pr P w K mg base "is_table" sIsTable ["thing"] 3 (spOnto K)) : Pr P w K mg base "need_table" sNeedTable ["table"] 4 (spNeedT K) := by
  refine D.ok scNeedT (fun vs H Q E h => ?_) (fun f cdv A outer s H vs Q E hr h => ?_)
  · obtain ⟨a, hs, rfl, _⟩ := h
    rfl
  · obtain ⟨a, hs, rfl, hT, T, q⟩ := h
    refine ⟨_, pss_one (ps_if (pt_not (pt_val (pe_pr G hr (pa_cons (pv 0) pa_nil)))) pss_never pss_nil), ?_⟩
    exact ⟨_, rfl, a, hs, rfl, hT, T, fun H' sm => ⟨true, rfl, iteF (q H' sm)⟩⟩
theorem scNeedI : FnScope ["number"] ["number"] (defScope sNeedInteger) := ⟨rfl, rfl, rfl, by decide +kernel, rfl, by decide +kernel, by decide +kernel⟩
theorem ok_needInteger (D : Df K mg "need_integer" sNeedInteger ["number"]) (G : Pr P w K mg base "is_integer" sIsInteger ["thing"] 1 spInt) : Pr P w K mg base "need_integer" sNeedInteger ["number"] 2 spNeedI := by
  refine D.ok scNeedI (fun vs H Q E h => ?_) (fun f cdv A outer s H vs Q E hr h => ?_)
  · obtain ⟨i, rfl, _⟩ := h
    rfl
  · obtain ⟨i, rfl, q⟩ := h
    refine ⟨_, pss_one (ps_if (pt_not (pt_val (pe_pr G hr (pa_cons (pv 0) pa_nil)))) pss_never pss_nil), ?_⟩
    exact ⟨_, rfl, i, rfl, true, rfl, iteF q⟩
/-! ### holds, outs, things -/
theorem scHoldOf : FnScope ["table", "thing"] ["table", "thing"] (defScope sHoldOf) := ⟨rfl, rfl, rfl, by decide +kernel, rfl, by decide +kernel, by decide +kernel⟩
theorem tv_at {hs : List Nat} (T : Tab hs) (t : Int) : atI (tv hs) (t % (((tv hs).length : Nat) : Int)) = some (.int (hold hs t)) := by
  have h := place_lt T t
  have c := place_cast T t
  rw [tv_len]
  refine at_of (j := (t % (hs.length : Int)).toNat) c.symm ?_
  rw [List.getElem?_map, List.getElem?_eq_getElem h]
  unfold hold
  rw [List.getD_eq_getElem?_getD, List.getElem?_eq_getElem h]
  rfl
theorem ok_holdOf (D : Df K mg "hold_of" sHoldOf ["table", "thing"]) (B : Bl mg) : Pr P w K mg base "hold_of" sHoldOf ["table", "thing"] 1 (spHold K) := by
  refine D.ok scHoldOf (fun vs H Q E h => ?_) (fun f cdv A outer s H vs Q E hr h => ?_)
  · obtain ⟨a, hs, t, rfl, _⟩ := h
    rfl
  · obtain ⟨a, hs, t, rfl, hT, T, q⟩ := h
    refine ⟨_, pss_one (ps_ret (pe_ix ix_tup (pv 0) (pe_op op_mod (pv 1) (pe_callB call_len_seq rfl B.len PySem.boot_len (pa_cons (pv 0) pa_nil))) (fun _ _ => rfl))), ?_⟩
    refine ⟨_, rfl, _, rfl, _, rfl, a, _, rfl, .inr hT, _, _, rfl, rfl, (by show (0 : Int) < ((tv hs).length : Nat); rw [tv_len]; have := T.pos; omega), ?_⟩
    exact ⟨a, _, _, _, rfl, rfl, hT, tv_at T t, q⟩
theorem scOutOf : FnScope ["table", "thing"] ["table", "thing"] (defScope sOutOf) := ⟨rfl, rfl, rfl, by decide +kernel, rfl, by decide +kernel, by decide +kernel⟩
theorem ok_outOf (D : Df K mg "out_of" sOutOf ["table", "thing"]) (G : Pr P w K mg base "hold_of" sHoldOf ["table", "thing"] 1 (spHold K)) : Pr P w K mg base "out_of" sOutOf ["table", "thing"] 2 (spOut K) := by
  refine D.ok scOutOf (fun vs H Q E h => ?_) (fun f cdv A outer s H vs Q E hr h => ?_)
  · obtain ⟨a, hs, t, rfl, _⟩ := h
    rfl
  · obtain ⟨a, hs, t, rfl, hT, T, q⟩ := h
    refine ⟨_, pss_one (ps_ret (pe_op op_add (pv 1) (pe_pr G hr (pa_cons (pv 0) (pa_cons (pv 1) pa_nil))))), ?_⟩
    exact ⟨_, rfl, _, rfl, _, rfl, a, hs, t, rfl, hT, T, _, _, rfl, rfl, q⟩
theorem scThingOf : FnScope ["table", "tick", "hold"] ["table", "tick"] (defScope sThingOf) := ⟨rfl, rfl, rfl, by decide +kernel, rfl, by decide +kernel, by decide +kernel⟩
theorem ok_thingOf (D : Df K mg "thing_of" sThingOf ["table", "tick"]) (G : Pr P w K mg base "out_of" sOutOf ["table", "thing"] 2 (spOut K)) : Pr P w K mg base "thing_of" sThingOf ["table", "tick"] 3 (spThing K) := by
  refine D.ok scThingOf (fun vs H Q E h => ?_) (fun f cdv A outer s H vs Q E hr h => ?_)
  · obtain ⟨a, hs, t, rfl, _⟩ := h
    rfl
  · obtain ⟨a, hs, u, rfl, hT, T, q⟩ := h
    refine ⟨_, pss_one (ps_for PassesOwn.never rfl (pi_tup (pv 0)) (pg_name (i := 2) scThingOf.nd rfl (Or.inl rfl))
      (pss_one (ps_if (pt_cmpR op_eq (pe_pr G hr (pa_cons (pv 0) (pa_cons (pe_op op_sub (pv 1) (pv 2)) pa_nil))) (pv 1) (nomark _)) (pss_one (ps_ret (pe_op op_sub (pv 1) (pv 2)))) pss_nil))), ?_⟩
    refine ⟨_, rfl, a, rfl, ⟨_, hT⟩, for_tup (K := K) (a := a) (xs := tv hs) (fun i σ H' => ∃ o, σ = [some (.ref a), some (.int u), o] ∧ H' = H ∧ ∀ j h, j < i → hs[j]? = some h → out hs (u - (h : Nat)) ≠ u)
      ⟨_, rfl, rfl, fun j h z => by omega⟩ (fun i σ H' _ ⟨_, _, e, _⟩ => e ▸ hT) ?_ ?_⟩
    · rintro i x σ H' hx ⟨o, rfl, rfl, no⟩
      obtain ⟨h, eh, rfl⟩ := tv_get hx
      refine ⟨_, rfl, _, rfl, _, rfl, _, _, rfl, rfl, a, hs, _, rfl, hT, T, _, rfl, rfl, _, rfl, ?_⟩
      by_cases e : out hs (u - (h : Nat)) = u
      · rw [show decide (V.int (out hs (u - (h : Int))) = V.int u) = true from decide_eq_true (by rw [e])]
        refine iteT ⟨_, rfl, _, rfl, _, _, rfl, rfl, ?_⟩
        show Q (.int (u - (h : Int))) H'
        rw [← thing_uniq T e]
        exact q
      · rw [show decide (V.int (out hs (u - (h : Int))) = V.int u) = false from decide_eq_false fun z => e (V.int.inj z)]
        refine iteF ⟨_, rfl, rfl, fun j g hj eg => ?_⟩
        by_cases ej : j = i
        · subst ej
          rw [eh] at eg
          cases eg
          exact e
        · exact no j g (by omega) eg
    · rintro σ H' ⟨o, rfl, rfl, no⟩
      exfalso
      have hl := place_lt T (thing hs u)
      refine no _ _ (by rw [tv_len]; exact hl) (List.getElem?_eq_getElem hl) ?_
      have e : ((hs[(thing hs u % (hs.length : Int)).toNat] : Nat) : Int) = hold hs (thing hs u) := by
        unfold hold
        rw [List.getD_eq_getElem?_getD, List.getElem?_eq_getElem hl]
        rfl
      have o := out_thing T u
      rw [show u - ((hs[(thing hs u % (hs.length : Int)).toNat] : Nat) : Int) = thing hs u by
        rw [e]
        unfold out at o
        omega]
      exact o
theorem scHeldOf : FnScope ["table"] ["table"] (defScope sHeldOf) := ⟨rfl, rfl, rfl, by decide +kernel, rfl, by decide +kernel, by decide +kernel⟩
theorem ok_heldOf (D : Df K mg "held_of" sHeldOf ["table"]) (B : Bl mg) : Pr P w K mg base "held_of" sHeldOf ["table"] 1 (spHeldOf K) := by
  refine D.ok scHeldOf (fun vs H Q E h => ?_) (fun f cdv A outer s H vs Q E hr h => ?_)
  · obtain ⟨a, hs, rfl, _⟩ := h
    rfl
  · obtain ⟨a, hs, rfl, hT, T, q⟩ := h
    refine ⟨_, pss_one (ps_ret (pe_op op_fdivN (pe_callB (cr_sumT rfl) rfl B.sum boot_sum (pa_cons (pv 0) pa_nil)) (pe_callB call_len_seq rfl B.len PySem.boot_len (pa_cons (pv 0) pa_nil)))), ?_⟩
    have p := T.pos
    have l := T.len
    refine ⟨_, rfl, a, _, rfl, tv_ints hs ▸ hT, _, rfl, a, _, rfl, .inr hT, _, _, rfl, rfl, ⟨by rw [tv_len]; omega, by rw [tv_len]; omega⟩, ?_⟩
    show Q (.int (Int.fdiv (hs.map fun (h : Nat) => (h : Int)).sum (((tv hs).length : Nat) : Int))) H
    rw [tv_len, Int.fdiv_eq_ediv_of_nonneg _ (by omega)]
    exact q
theorem scOutAt : FnScope ["table", "thing"] ["table", "thing"] (defScope sOutAt) := ⟨rfl, rfl, rfl, by decide +kernel, rfl, by decide +kernel, by decide +kernel⟩
theorem ok_outAt (D : Df K mg "out_at" sOutAt ["table", "thing"]) (GT : Pr P w K mg base "need_table" sNeedTable ["table"] 4 (spNeedT K)) (GI : Pr P w K mg base "need_integer" sNeedInteger ["number"] 4 spNeedI)
    (G : Pr P w K mg base "out_of" sOutOf ["table", "thing"] 4 (spOut K)) : Pr P w K mg base "out_at" sOutAt ["table", "thing"] 5 (spOutAt K) := by
  refine D.ok scOutAt (fun vs H Q E h => ?_) (fun f cdv A outer s H vs Q E hr h => ?_)
  · obtain ⟨a, hs, t, rfl, _⟩ := h
    rfl
  · obtain ⟨a, hs, t, rfl, hT, T, q⟩ := h
    refine ⟨_, pss_cons (ps_expr (pe_pr GT hr (pa_cons (pv 0) pa_nil))) (pss_cons (ps_expr (pe_pr GI hr (pa_cons (pv 1) pa_nil))) (pss_one (ps_ret (pe_pr G hr (pa_cons (pv 0) (pa_cons (pv 1) pa_nil)))))), ?_⟩
    exact ⟨_, rfl, a, hs, rfl, hT, T, fun H' sm => ⟨_, rfl, t, rfl, _, rfl, _, rfl, a, hs, t, rfl, Same.seqT sm hT, T, q H' sm⟩⟩
theorem scThingAt : FnScope ["table", "tick"] ["table", "tick"] (defScope sThingAt) := ⟨rfl, rfl, rfl, by decide +kernel, rfl, by decide +kernel, by decide +kernel⟩
theorem ok_thingAt (D : Df K mg "thing_at" sThingAt ["table", "tick"]) (GT : Pr P w K mg base "need_table" sNeedTable ["table"] 4 (spNeedT K)) (GI : Pr P w K mg base "need_integer" sNeedInteger ["number"] 4 spNeedI)
    (G : Pr P w K mg base "thing_of" sThingOf ["table", "tick"] 4 (spThing K)) : Pr P w K mg base "thing_at" sThingAt ["table", "tick"] 5 (spThingAt K) := by
  refine D.ok scThingAt (fun vs H Q E h => ?_) (fun f cdv A outer s H vs Q E hr h => ?_)
  · obtain ⟨a, hs, t, rfl, _⟩ := h
    rfl
  · obtain ⟨a, hs, t, rfl, hT, T, q⟩ := h
    refine ⟨_, pss_cons (ps_expr (pe_pr GT hr (pa_cons (pv 0) pa_nil))) (pss_cons (ps_expr (pe_pr GI hr (pa_cons (pv 1) pa_nil))) (pss_one (ps_ret (pe_pr G hr (pa_cons (pv 0) (pa_cons (pv 1) pa_nil)))))), ?_⟩
    exact ⟨_, rfl, a, hs, rfl, hT, T, fun H' sm => ⟨_, rfl, t, rfl, _, rfl, _, rfl, a, hs, t, rfl, Same.seqT sm hT, T, q H' sm⟩⟩
theorem scHeld : FnScope ["table"] ["table"] (defScope sHeld) := ⟨rfl, rfl, rfl, by decide +kernel, rfl, by decide +kernel, by decide +kernel⟩
theorem ok_held (D : Df K mg "held" sHeld ["table"]) (GT : Pr P w K mg base "need_table" sNeedTable ["table"] 4 (spNeedT K)) (G : Pr P w K mg base "held_of" sHeldOf ["table"] 4 (spHeldOf K)) : Pr P w K mg base "held" sHeld ["table"] 5 (spHeld K) := by
  refine D.ok scHeld (fun vs H Q E h => ?_) (fun f cdv A outer s H vs Q E hr h => ?_)
  · obtain ⟨a, hs, rfl, _⟩ := h
    rfl
  · obtain ⟨a, hs, rfl, hT, T, q⟩ := h
    refine ⟨_, pss_cons (ps_expr (pe_pr GT hr (pa_cons (pv 0) pa_nil))) (pss_one (ps_ret (pe_pr G hr (pa_cons (pv 0) pa_nil)))), ?_⟩
    exact ⟨_, rfl, a, hs, rfl, hT, T, fun H' sm => ⟨_, rfl, a, hs, rfl, Same.seqT sm hT, T, q H' sm⟩⟩
theorem scDelay : FnScope ["table"] ["table"] (defScope sDelay) := ⟨rfl, rfl, rfl, by decide +kernel, rfl, by decide +kernel, by decide +kernel⟩
theorem mx_of {hs : List Nat} {m : Int} (h1 : m ∈ hs.map (fun (h : Nat) => (h : Int))) (h2 : ∀ y, y ∈ hs.map (fun (h : Nat) => (h : Int)) → y ≤ m) : m = (mx hs : Nat) := by
  obtain ⟨n, hn, rfl⟩ := List.mem_map.mp h1
  rw [mx_uniq hn fun h hh => by have := h2 h (List.mem_map.mpr ⟨h, hh, rfl⟩); omega]
theorem ok_delay (D : Df K mg "delay" sDelay ["table"]) (B : Bl mg) (GT : Pr P w K mg base "need_table" sNeedTable ["table"] 4 (spNeedT K)) : Pr P w K mg base "delay" sDelay ["table"] 5 (spDelay K) := by
  refine D.ok scDelay (fun vs H Q E h => ?_) (fun f cdv A outer s H vs Q E hr h => ?_)
  · obtain ⟨a, hs, rfl, _⟩ := h
    rfl
  · obtain ⟨a, hs, rfl, hT, T, q⟩ := h
    refine ⟨_, pss_cons (ps_expr (pe_pr GT hr (pa_cons (pv 0) pa_nil))) (pss_one (ps_ret (pe_callB (cr_maxT rfl) rfl B.max boot_max (pa_cons (pv 0) pa_nil)))), ?_⟩
    refine ⟨_, rfl, a, hs, rfl, hT, T, fun H' sm => ⟨_, rfl, a, _, rfl, tv_ints hs ▸ Same.seqT sm hT, by rw [List.length_map]; exact T.pos, fun m h1 h2 => ?_⟩⟩
    rw [mx_of h1 h2]
    exact q H' sm
end
end BA
set_option maxHeartbeats 4000000
namespace BA
open PySem PySem.Spec PyProof.Rows PyProof L2
theorem ixN_mod {n : Nat} {x : Int} (h : 0 < n) : ixN n (x % (n : Int)) = some (x % (n : Int)).toNat := by
  have h1 := Int.emod_nonneg x (b := (n : Int)) (by omega)
  have h2 := Int.emod_lt_of_pos x (b := (n : Int)) (by omega)
  unfold ixN
  rw [if_pos h1, if_pos h2]
theorem tv_set {hs : List Nat} {i n : Nat} : (tv hs).set i (.int (n : Nat)) = tv (hs.set i n) := by
  unfold tv
  rw [List.map_set]
/-- numbers below 0 left out -/
def stateL (hs : List Nat) (u : Int) : List Int := ((List.range (mx hs)).map fun (k : Nat) => out hs (u - (mx hs : Nat) + (k : Nat)) - u).filter fun (x : Int) => decide (0 ≤ x)
def spState (K : PySem.W.Frag) : Sp := fun vs H Q _ => ∃ (a : Addr) (hs : List Nat) (u : Int), vs = [.ref a, .int u] ∧ SqT K H a (tv hs) ∧ Tab hs ∧ -1000000 ≤ u ∧ u ≤ 1000000 ∧
  ∀ H' p (ns : List Int), Same H H' → H' p = some (.tup (ns.map V.int)) → ns.Pairwise (· ≤ ·) → ns.Perm (stateL hs u) → Q (.ref p) H'
def spCard (K : PySem.W.Frag) : Sp := fun vs H Q _ => ∃ (a : Addr) (hs : List Nat) (t : Int), vs = [.ref a, .int t] ∧ SqT K H a (tv hs) ∧ Tab hs ∧ -1000000 ≤ t ∧ t ≤ 1000000 ∧ Q (.int (card hs (mx hs) t)) H
def spCards (K : PySem.W.Frag) : Sp := fun vs H Q _ => ∃ (a : Addr) (hs : List Nat), vs = [.ref a] ∧ SqT K H a (tv hs) ∧ Tab hs ∧
  ∀ H' p, Same H H' → H' p = some (.tup (((List.range hs.length).map fun (t : Nat) => card hs (mx hs) t).map V.int)) → Q (.ref p) H'
def overOf (hs : List Nat) : Int := (hs.length : Int) * heldOf hs - S hs.length (fun t => card hs (mx hs) t)
def spOver (K : PySem.W.Frag) : Sp := fun vs H Q _ => ∃ (a : Addr) (hs : List Nat), vs = [.ref a] ∧ SqT K H a (tv hs) ∧ Tab hs ∧ ∀ H', Same H H' → Q (.int (overOf hs)) H'
theorem S_list (f : Nat → Int) : ∀ n : Nat, ((List.range n).map f).sum = S n f
  | 0 => rfl
  | n + 1 => by
    rw [List.range_succ, List.map_append, List.sum_append, S_list f n]
    show S n f + (f n + 0) = S n f + f n
    omega
section
variable {P : Program} {w : World} {K : PySem.W.Frag} {mg : Str → Option Value} {base : Heap}
/-! ### back -/
theorem scBackOf : FnScope ["table", "holds", "place", "hold"] ["table"] (defScope sBackOf) := ⟨rfl, rfl, rfl, by decide +kernel, rfl, by decide +kernel, by decide +kernel⟩
theorem ok_backOf (D : Df K mg "back_of" sBackOf ["table"]) (B : Bl mg) : Pr P w K mg base "back_of" sBackOf ["table"] 1 (spBack K) := by
  refine D.ok scBackOf (fun vs H Q E h => ?_) (fun f cdv A outer s H vs Q E hr h => ?_)
  · obtain ⟨a, hs, rfl, _⟩ := h
    rfl
  · obtain ⟨a, hs, rfl, hT, T, q⟩ := h
    refine ⟨_, pss_cons (ps_set (i := 1) scBackOf.nd rfl (Or.inl rfl) (pe_op op_rep (pe_lst (pa_cons pe_int pa_nil)) (pe_callB call_len_seq rfl B.len PySem.boot_len (pa_cons (pv 0) pa_nil))))
      (pss_cons (ps_for PassesOwn.never rfl (pi_enT B.enumerate (pa_cons (pv 0) pa_nil)) (pg_tup rfl (pgs_cons (pg_name (i := 2) scBackOf.nd rfl (Or.inl rfl)) (pgs_cons (pg_name (i := 3) scBackOf.nd rfl (Or.inl rfl)) pgs_nil)))
        (pss_one (ps_asg (pe_op op_sub (pe_callB (cr_maxT rfl) rfl B.max boot_max (pa_cons (pv 0) pa_nil)) (pv 3))
          (pg_sub (pv 1) (pe_op op_mod (pe_op op_add (pv 2) (pv 3)) (pe_callB call_len_seq rfl B.len PySem.boot_len (pa_cons (pv 0) pa_nil))) set_list))))
      (pss_one (ps_ret (pe_callTy call_tuple_of rfl B.tuple (by decide +kernel) (pa_cons (pv 1) pa_nil))))), ?_⟩
    have hp := T.pos
    have hn := T.len
    refine ⟨by show 1 ≤ sizeLine; decide, fun z nz => ?_⟩
    have s1 : Same H (upd H z (.lst [.int 0])) := same_upd nz
    refine ⟨_, rfl, a, _, rfl, .inr (Same.seqT s1 hT), ?_⟩
    have hl : ((tv hs).length : Int) = (hs.length : Int) := by rw [tv_len]
    refine ⟨z, _, _, rfl, rfl, upd_same, by rw [hl]; omega, by rw [hl]; omega, by rw [hl, Int.toNat_natCast, sizeLine_eq]; show 1 * hs.length ≤ 16777216; omega, fun l nl => ?_⟩
    have e0 : (List.replicate ((((tv hs).length : Nat) : Int)).toNat ([.int 0] : List V)).flatten = tv (List.replicate hs.length 0) := by
      rw [hl, Int.toNat_natCast]
      unfold tv
      rw [List.map_replicate]
      have : ∀ n : Nat, (List.replicate n ([.int 0] : List V)).flatten = List.replicate n (.int 0) := fun n => by
        induction n with
        | zero => rfl
        | succ n ih => rw [List.replicate_succ, List.flatten_cons, ih]; rfl
      exact this _
    have s2 := s1.trans (same_upd nl (o := .lst (List.replicate ((((tv hs).length : Nat) : Int)).toNat ([.int 0] : List V)).flatten))
    have nl0 : H l = none := s1.free nl
    refine ⟨_, rfl, a, _, rfl, Same.seqT s2 hT, ?_⟩
    refine for_enT (K := K) (a := a) (xs := tv hs) (fun i σ H' => ∃ o2 o3 bs, σ = [some (.ref a), some (.ref l), o2, o3] ∧ Same H H' ∧ H' l = some (.lst (tv bs)) ∧ bs.length = hs.length ∧ ∀ j, j < i → bs.getD (pl hs j) 0 = mx hs - hs.getD j 0)
      ⟨none, none, List.replicate hs.length 0, rfl, s2, by rw [upd_same, e0], by simp, fun j h => by omega⟩ (fun i σ H' _ ⟨_, _, _, _, sm, _⟩ => Same.seqT sm hT) ?_ ?_
    · rintro i x t σ H' hx ⟨o2, o3, bs, rfl, sm, hb, lb, hB⟩ nt
      obtain ⟨h, eh, rfl⟩ := tv_get hx
      have hi : i < hs.length := (List.getElem?_eq_some_iff.mp eh).1
      have gd : hs.getD i 0 = h := by rw [List.getD_eq_getElem?_getD, eh]; rfl
      have hm : h ≤ mx hs := mx_ge (List.mem_of_getElem? eh)
      have sm2 := sm.trans (same_upd nt (o := .tup [.int (i : Nat), .int (h : Int)]))
      have hT2 := Same.seqT sm2 hT
      have hb2 : (upd H' t (.tup [.int (i : Nat), .int (h : Int)])) l = some (.lst (tv bs)) := by
        rw [upd_ne (ne_of_none hb nt)]
        exact hb
      refine ⟨t, _, rfl, SqT.of upd_same, rfl, _, _, rfl, _, _, rfl, rfl, ?_⟩
      refine ⟨_, rfl, a, _, rfl, tv_ints hs ▸ hT2, by rw [List.length_map]; exact T.pos, fun m h1 h2 => ?_⟩
      rw [mx_of h1 h2]
      refine ⟨_, rfl, _, _, rfl, rfl, _, rfl, _, rfl, _, rfl, _, _, rfl, rfl, _, rfl, a, _, rfl, .inr hT2, _, _, rfl, rfl, (by rw [tv_len]; omega), ?_⟩
      have ec : ((i : Int) + (h : Int)) % (((tv hs).length : Nat) : Int) = (pl hs i : Nat) := by
        rw [tv_len]
        unfold pl
        rw [gd, Int.natCast_emod, Int.natCast_add]
      refine ⟨l, _, _, (pl hs i), rfl, rfl, hb2, ?_, ?_⟩
      · have e2 := ixN_mod (n := (tv hs).length) (x := (i : Int) + (h : Int)) (by rw [tv_len]; omega)
        rw [show (tv bs).length = (tv hs).length by rw [tv_len, tv_len, lb]]
        refine e2.trans ?_
        rw [ec, Int.toNat_natCast]
      refine ⟨_, _, bs.set (pl hs i) (mx hs - h), rfl, fun b o e => ?_, ?_, by rw [List.length_set]; exact lb, fun j hj => ?_⟩
      · have nb : b ≠ l := fun z' => by rw [z', nl0] at e; cases e
        rw [upd_ne nb]
        exact sm2 _ _ e
      · rw [upd_same, ← tv_set]
        show some (HO.lst ((tv bs).set (pl hs i) (.int (((mx hs : Nat) : Int) - (h : Int))))) = _
        rw [show ((mx hs : Nat) : Int) - (h : Int) = ((mx hs - h : Nat) : Int) by omega]
      · have pi_lt : pl hs i < bs.length := by rw [lb]; exact Nat.mod_lt _ hp
        by_cases e : j = i
        · subst e
          rw [List.getD_eq_getElem?_getD, List.getElem?_set_self pi_lt, gd]
          rfl
        · have ne : pl hs i ≠ pl hs j := fun z' => e (T.inj j i (by omega) hi z'.symm)
          rw [List.getD_eq_getElem?_getD, List.getElem?_set_ne ne, ← List.getD_eq_getElem?_getD]
          exact hB j (by omega)
    · rintro σ H' ⟨o2, o3, bs, rfl, sm, hb, lb, hB⟩
      refine ⟨_, rfl, l, _, rfl, .inl ⟨SqL.of hb, fun p np => ?_⟩⟩
      exact q _ p bs (sm.trans (same_upd np)) upd_same ⟨lb, fun i hi => hB i (by rw [tv_len]; exact hi)⟩
theorem scBack : FnScope ["table"] ["table"] (defScope sBack) := ⟨rfl, rfl, rfl, by decide +kernel, rfl, by decide +kernel, by decide +kernel⟩
theorem ok_back (D : Df K mg "back" sBack ["table"]) (GT : Pr P w K mg base "need_table" sNeedTable ["table"] 4 (spNeedT K)) (G : Pr P w K mg base "back_of" sBackOf ["table"] 4 (spBack K)) : Pr P w K mg base "back" sBack ["table"] 5 (spBack K) := by
  refine D.ok scBack (fun vs H Q E h => ?_) (fun f cdv A outer s H vs Q E hr h => ?_)
  · obtain ⟨a, hs, rfl, _⟩ := h
    rfl
  · obtain ⟨a, hs, rfl, hT, T, q⟩ := h
    refine ⟨_, pss_cons (ps_expr (pe_pr GT hr (pa_cons (pv 0) pa_nil))) (pss_one (ps_ret (pe_pr G hr (pa_cons (pv 0) pa_nil)))), ?_⟩
    exact ⟨_, rfl, a, hs, rfl, hT, T, fun H' sm => ⟨_, rfl, a, hs, rfl, Same.seqT sm hT, T, fun H2 p bs s2 hp hb => q H2 p bs (sm.trans s2) hp hb⟩⟩
/-! ### states -/
theorem scStateOf : FnScope ["table", "tick", "outs", "thing", "number"] ["table", "tick"] (defScope sStateOf) := ⟨rfl, rfl, rfl, by decide +kernel, rfl, by decide +kernel, by decide +kernel⟩
theorem ok_stateOf (D : Df K mg "state_of" sStateOf ["table", "tick"]) (B : Bl mg) (G : Pr P w K mg base "out_of" sOutOf ["table", "thing"] 2 (spOut K)) : Pr P w K mg base "state_of" sStateOf ["table", "tick"] 3 (spState K) := by
  refine D.ok scStateOf (fun vs H Q E h => ?_) (fun f cdv A outer s H vs Q E hr h => ?_)
  · obtain ⟨a, hs, t, rfl, _⟩ := h
    rfl
  · obtain ⟨a, hs, u, rfl, hT, T, u0, u1, q⟩ := h
    refine ⟨_, pss_cons (ps_setLc (i := 2) (own := [("thing", 3)]) (g := gName 3) (tt := tYes) rfl scStateOf.nd rfl rfl (sw_true rfl rfl rfl (by decide +kernel))
        (pi_range2 rfl B.range (pa_cons (pe_op op_sub (pv 1) (pe_callB (cr_maxT rfl) rfl B.max boot_max (pa_cons (pv 0) pa_nil))) (pa_cons (pv 1) pa_nil)))
        (blkOk_by (N := ["table", "tick", "outs", "thing", "number"]) (sc := defScope sStateOf) (by decide +kernel)) (fun _ _ _ _ _ => pg_name (i := 3) scStateOf.nd rfl (Or.inl rfl)) (fun _ _ _ _ _ => pts_nil)
        (fun _ _ _ _ _ => pe_op op_sub (pe_pr G hr (pa_cons (pv 0) (pa_cons (pv 3) pa_nil))) (pv 1)))
      (pss_one (ps_ret (pe_callTy call_tuple_of rfl B.tuple (by decide +kernel) (pa_cons (pe_callB cr_sorted rfl B.sorted (by decide +kernel)
        (pa_cons (pe_lc (own := [("number", 4)]) (g := gName 4) rfl scStateOf.nd (pi_list (pv 2)) (blkOk_by (N := ["table", "tick", "outs", "thing", "number"]) (sc := defScope sStateOf) (by decide +kernel))
          (fun _ _ _ _ _ => pg_name (i := 4) scStateOf.nd rfl (Or.inl rfl)) (fun _ _ _ _ _ => pts_one (pt_cmpR op_ge (pv 4) pe_int (nomark _))) (fun _ _ _ _ _ => pv 4)) pa_nil)) pa_nil)))), ?_⟩
    have hm := mx_le T
    refine ⟨_, rfl, _, rfl, a, _, rfl, tv_ints hs ▸ hT, by rw [List.length_map]; exact T.pos, fun m h1 h2 => ?_⟩
    rw [mx_of h1 h2]
    refine ⟨_, _, rfl, rfl, _, rfl, _, _, rfl, ⟨by omega, by omega, by omega, by omega⟩, fun d nd => ?_⟩
    have en : (u - (u - ((mx hs : Nat) : Int))).toNat = mx hs := by omega
    rw [en]
    refine lc_range (lo := u - ((mx hs : Nat) : Int)) (n := mx hs) (fun i H' => Same H H' ∧ H' d = some (.lst (((List.range i).map fun (k : Nat) => out hs (u - (mx hs : Nat) + (k : Nat)) - u).map V.int))) ⟨same_upd nd, upd_same⟩ ?_ ?_
    · rintro i H' hi ⟨sm, hd⟩
      refine ⟨rfl, _, rfl, _, rfl, a, hs, _, rfl, Same.seqT sm hT, T, _, rfl, _, _, rfl, rfl, _, hd, ?_, ?_, ?_⟩
      · rw [List.length_map, List.length_map, List.length_range]
        exact small1000 (by omega)
      · intro b o e
        have nb : b ≠ d := fun z => by rw [z, nd] at e; cases e
        rw [upd_ne nb]
        exact sm _ _ e
      · rw [upd_same, List.range_succ, List.map_append, List.map_append]
        rfl
    · rintro H' ⟨sm, hd⟩
      refine ⟨_, rfl, d, rfl, ⟨_, SqL.of hd⟩, fun d2 nd2 => ?_⟩
      have nd20 : H d2 = none := sm.free nd2
      refine lc_list (K := K) (a := d) (xs := ((List.range (mx hs)).map fun (k : Nat) => out hs (u - (mx hs : Nat) + (k : Nat)) - u).map V.int)
        (fun i H2 => Same H' H2 ∧ H2 d2 = some (.lst (((((List.range (mx hs)).map fun (k : Nat) => out hs (u - (mx hs : Nat) + (k : Nat)) - u).take i).filter fun (x : Int) => decide (0 ≤ x)).map V.int))) ⟨same_upd nd2, upd_same⟩
        (fun i H2 _ ⟨s2, _⟩ => s2.seq (SqL.of hd)) ?_ ?_
      · rintro i x H2 hx ⟨s2, h2⟩
        rw [List.getElem?_map] at hx
        cases ex : ((List.range (mx hs)).map fun (k : Nat) => out hs (u - (mx hs : Nat) + (k : Nat)) - u)[i]? with
        | none => rw [ex] at hx; cases hx
        | some z =>
          rw [ex] at hx
          obtain rfl := Option.some.inj hx
          have hi : i < mx hs := by
            have := (List.getElem?_eq_some_iff.mp ex).1
            simpa using this
          refine ⟨rfl, _, rfl, _, _, rfl, rfl, _, rfl, ?_⟩
          have tk : (((List.range (mx hs)).map fun (k : Nat) => out hs (u - (mx hs : Nat) + (k : Nat)) - u).take (i + 1)) = (((List.range (mx hs)).map fun (k : Nat) => out hs (u - (mx hs : Nat) + (k : Nat)) - u).take i) ++ [z] := by
            rw [List.take_add_one, ex]
            rfl
          rw [tk, List.filter_append]
          by_cases hz : 0 ≤ z
          · rw [decide_eq_true hz, List.filter_cons_of_pos (p := fun (x : Int) => decide (0 ≤ x)) (decide_eq_true hz)]
            refine iteT ⟨_, rfl, _, h2, ?_, fun b o e => ?_, ?_⟩
            · rw [List.length_map]
              refine small1000 (Nat.le_trans (List.length_filter_le _ _) ?_)
              rw [List.length_take]
              omega
            · have nb : b ≠ d2 := fun z' => by rw [z', nd2] at e; cases e
              rw [upd_ne nb]
              exact s2 _ _ e
            · rw [upd_same, List.map_append]
              rfl
          · rw [decide_eq_false hz, List.filter_cons_of_neg (p := fun (x : Int) => decide (0 ≤ x)) (by simpa using hz)]
            refine iteF ⟨s2, ?_⟩
            rw [List.filter_nil, List.append_nil]
            exact h2
      · rintro H2 ⟨s2, h2⟩
        rw [List.take_of_length_le (by simp)] at h2
        refine ⟨d2, _, rfl, SqL.of h2, ?_, fun ns p hp ho np => ?_⟩
        · refine Nat.lt_of_le_of_lt (List.length_filter_le _ _) ?_
          rw [List.length_map, List.length_range]
          omega
        refine ⟨p, _, rfl, .inl ⟨SqL.of upd_same, fun p2 np2 => ?_⟩⟩
        exact q _ p2 ns (sm.trans (s2.trans ((same_upd np).trans (same_upd np2)))) upd_same ho hp
theorem scStateAt : FnScope ["table", "tick"] ["table", "tick"] (defScope sStateAt) := ⟨rfl, rfl, rfl, by decide +kernel, rfl, by decide +kernel, by decide +kernel⟩
theorem ok_stateAt (D : Df K mg "state_at" sStateAt ["table", "tick"]) (GT : Pr P w K mg base "need_table" sNeedTable ["table"] 4 (spNeedT K)) (GI : Pr P w K mg base "need_integer" sNeedInteger ["number"] 4 spNeedI)
    (G : Pr P w K mg base "state_of" sStateOf ["table", "tick"] 4 (spState K)) : Pr P w K mg base "state_at" sStateAt ["table", "tick"] 5 (spState K) := by
  refine D.ok scStateAt (fun vs H Q E h => ?_) (fun f cdv A outer s H vs Q E hr h => ?_)
  · obtain ⟨a, hs, t, rfl, _⟩ := h
    rfl
  · obtain ⟨a, hs, t, rfl, hT, T, u0, u1, q⟩ := h
    refine ⟨_, pss_cons (ps_expr (pe_pr GT hr (pa_cons (pv 0) pa_nil))) (pss_cons (ps_expr (pe_pr GI hr (pa_cons (pv 1) pa_nil))) (pss_one (ps_ret (pe_pr G hr (pa_cons (pv 0) (pa_cons (pv 1) pa_nil)))))), ?_⟩
    exact ⟨_, rfl, a, hs, rfl, hT, T, fun H' sm => ⟨_, rfl, t, rfl, _, rfl, _, rfl, a, hs, t, rfl, Same.seqT sm hT, T, u0, u1, fun H2 p ns s2 hp ho hP => q H2 p ns (sm.trans s2) hp ho hP⟩⟩
/-! ### cards -/
theorem scHoldAt : FnScope ["table", "thing"] ["table", "thing"] (defScope sHoldAt) := ⟨rfl, rfl, rfl, by decide +kernel, rfl, by decide +kernel, by decide +kernel⟩
theorem ok_holdAt (D : Df K mg "hold_at" sHoldAt ["table", "thing"]) (B : Bl mg) : Pr P w K mg base "hold_at" sHoldAt ["table", "thing"] 1 (spHold K) := by
  refine D.ok scHoldAt (fun vs H Q E h => ?_) (fun f cdv A outer s H vs Q E hr h => ?_)
  · obtain ⟨a, hs, t, rfl, _⟩ := h
    rfl
  · obtain ⟨a, hs, t, rfl, hT, T, q⟩ := h
    refine ⟨_, pss_one (ps_ret (pe_ix ix_tup (pv 0) (pe_op op_mod (pv 1) (pe_callB call_len_seq rfl B.len PySem.boot_len (pa_cons (pv 0) pa_nil))) (fun _ _ => rfl))), ?_⟩
    refine ⟨_, rfl, _, rfl, _, rfl, a, _, rfl, .inr hT, _, _, rfl, rfl, (by show (0 : Int) < ((tv hs).length : Nat); rw [tv_len]; have := T.pos; omega), ?_⟩
    exact ⟨a, _, _, _, rfl, rfl, hT, tv_at T t, q⟩
theorem scCardOf : FnScope ["table", "thing", "out", "many", "other"] ["table", "thing"] (defScope sCardOf) := ⟨rfl, rfl, rfl, by decide +kernel, rfl, by decide +kernel, by decide +kernel⟩
theorem ok_cardOf (D : Df K mg "card_of" sCardOf ["table", "thing"]) (B : Bl mg) (G : Pr P w K mg base "hold_at" sHoldAt ["table", "thing"] 1 (spHold K)) : Pr P w K mg base "card_of" sCardOf ["table", "thing"] 2 (spCard K) := by
  refine D.ok scCardOf (fun vs H Q E h => ?_) (fun f cdv A outer s H vs Q E hr h => ?_)
  · obtain ⟨a, hs, t, rfl, _⟩ := h
    rfl
  · obtain ⟨a, hs, t, rfl, hT, T, t0, t1, q⟩ := h
    refine ⟨_, pss_cons (ps_par (i := 2) (j := 3) rfl scCardOf.nd rfl rfl (by decide) rfl rfl (pa_cons (pe_op op_add (pv 1) (pe_pr G hr (pa_cons (pv 0) (pa_cons (pv 1) pa_nil)))) (pa_cons pe_int pa_nil)) (by rfl))
      (pss_cons (ps_for PassesOwn.never rfl (pi_range2 rfl B.range (pa_cons (pe_op op_sub (pv 1) (pe_callB (cr_maxT rfl) rfl B.max boot_max (pa_cons (pv 0) pa_nil))) (pa_cons (pe_op op_add (pv 1) pe_int) pa_nil))) (pg_name (i := 4) scCardOf.nd rfl (Or.inl rfl))
        (pss_one (ps_if (pt_chain op_lt op_le (pv 1) (pe_op op_add (pv 4) (pe_pr G hr (pa_cons (pv 0) (pa_cons (pv 4) pa_nil)))) (pv 2)) (pss_one (ps_set (i := 3) scCardOf.nd rfl (Or.inl rfl) (pe_op op_add (pv 3) pe_int))) pss_nil)))
      (pss_one (ps_ret (pv 3)))), ?_⟩
    have hm := mx_le T
    refine ⟨_, rfl, _, rfl, _, rfl, a, hs, t, rfl, hT, T, _, _, rfl, rfl, _, _, rfl, ?_⟩
    refine ⟨_, rfl, _, rfl, a, _, rfl, tv_ints hs ▸ hT, by rw [List.length_map]; exact T.pos, fun m h1 h2 => ?_⟩
    rw [mx_of h1 h2]
    refine ⟨_, _, rfl, rfl, _, rfl, _, _, rfl, rfl, _, _, rfl, ⟨by omega, by omega, by omega, by omega⟩, ?_⟩
    have en : (t + 1 - (t - ((mx hs : Nat) : Int))).toNat = mx hs + 1 := by omega
    rw [en]
    refine for_range (lo := t - ((mx hs : Nat) : Int)) (n := mx hs + 1) (fun i σ H' => ∃ o4, σ = [some (.ref a), some (.int t), some (.int (out hs t)), some (.int (S i (fun k => I (t < out hs (t - (mx hs : Nat) + k) ∧ out hs (t - (mx hs : Nat) + k) ≤ out hs t)))), o4] ∧ H' = H)
      ⟨none, rfl, rfl⟩ ?_ ?_
    · rintro i σ H' hi ⟨o4, rfl, rfl⟩
      refine ⟨_, rfl, _, rfl, _, rfl, _, rfl, a, hs, _, rfl, hT, T, _, _, rfl, rfl, _, _, rfl, rfl, _, rfl, ?_⟩
      have es : S (i + 1) (fun k => I (t < out hs (t - (mx hs : Nat) + k) ∧ out hs (t - (mx hs : Nat) + k) ≤ out hs t)) = S i (fun k => I (t < out hs (t - (mx hs : Nat) + k) ∧ out hs (t - (mx hs : Nat) + k) ≤ out hs t)) + I (t < out hs (t - (mx hs : Nat) + (i : Nat)) ∧ out hs (t - (mx hs : Nat) + (i : Nat)) ≤ out hs t) := rfl
      by_cases c1 : t < out hs (t - (mx hs : Nat) + (i : Nat))
      · rw [show decide (t < t - ((mx hs : Nat) : Int) + (i : Int) + hold hs (t - ((mx hs : Nat) : Int) + (i : Int))) = true from decide_eq_true c1]
        refine iteT ⟨_, rfl, _, _, rfl, rfl, _, rfl, ?_⟩
        by_cases c2 : out hs (t - (mx hs : Nat) + (i : Nat)) ≤ out hs t
        · rw [show decide (t - ((mx hs : Nat) : Int) + (i : Int) + hold hs (t - ((mx hs : Nat) : Int) + (i : Int)) ≤ out hs t) = true from decide_eq_true c2]
          refine iteT ⟨_, rfl, _, _, rfl, rfl, some (.int (t - ((mx hs : Nat) : Int) + (i : Int))), ?_, rfl⟩
          rw [es, I_pos ⟨c1, c2⟩]
          rfl
        · rw [show decide (t - ((mx hs : Nat) : Int) + (i : Int) + hold hs (t - ((mx hs : Nat) : Int) + (i : Int)) ≤ out hs t) = false from decide_eq_false c2]
          refine iteF ⟨some (.int (t - ((mx hs : Nat) : Int) + (i : Int))), ?_, rfl⟩
          rw [es, I_neg (fun z => c2 z.2), Int.add_zero]
          rfl
      · rw [show decide (t < t - ((mx hs : Nat) : Int) + (i : Int) + hold hs (t - ((mx hs : Nat) : Int) + (i : Int))) = false from decide_eq_false c1]
        refine iteF ⟨_, rfl, some (.int (t - ((mx hs : Nat) : Int) + (i : Int))), ?_, rfl⟩
        rw [es, I_neg (fun z => c1 z.1), Int.add_zero]
        rfl
    · rintro σ H' ⟨o4, rfl, rfl⟩
      exact ⟨_, rfl, q⟩
theorem scCardsOf : FnScope ["table", "thing"] ["table"] (defScope sCardsOf) := ⟨rfl, rfl, rfl, by decide +kernel, rfl, by decide +kernel, by decide +kernel⟩
theorem ok_cardsOf (D : Df K mg "cards_of" sCardsOf ["table"]) (B : Bl mg) (G : Pr P w K mg base "card_of" sCardOf ["table", "thing"] 2 (spCard K)) : Pr P w K mg base "cards_of" sCardsOf ["table"] 3 (spCards K) := by
  refine D.ok scCardsOf (fun vs H Q E h => ?_) (fun f cdv A outer s H vs Q E hr h => ?_)
  · obtain ⟨a, hs, rfl, _⟩ := h
    rfl
  · obtain ⟨a, hs, rfl, hT, T, q⟩ := h
    refine ⟨_, pss_one (ps_ret (pe_callTy call_tuple_of rfl B.tuple (by decide +kernel) (pa_cons (pe_lc (own := [("thing", 1)]) (g := gName 1) (tt := tYes) rfl scCardsOf.nd
        (pi_range1 rfl B.range (pa_cons (pe_callB call_len_seq rfl B.len PySem.boot_len (pa_cons (pv 0) pa_nil)) pa_nil)) (blkOk_by (N := ["table", "thing"]) (sc := defScope sCardsOf) (by decide +kernel))
        (fun _ _ _ _ _ => pg_name (i := 1) scCardsOf.nd rfl (Or.inl rfl)) (fun _ _ _ _ _ => pts_nil) (fun _ _ _ _ _ => pe_pr G hr (pa_cons (pv 0) (pa_cons (pv 1) pa_nil)))) pa_nil))), ?_⟩
    have hn := T.len
    refine ⟨_, rfl, a, _, rfl, .inr hT, _, rfl, by rw [tv_len]; omega, by rw [tv_len]; omega, fun d nd => ?_⟩
    have en : (((tv hs).length : Nat) : Int).toNat = hs.length := by rw [tv_len, Int.toNat_natCast]
    rw [en]
    refine lc_range (lo := 0) (n := hs.length) (fun i H' => Same H H' ∧ H' d = some (.lst (((List.range i).map fun (t : Nat) => card hs (mx hs) t).map V.int))) ⟨same_upd nd, upd_same⟩ ?_ ?_
    · rintro i H' hi ⟨sm, hd⟩
      refine ⟨rfl, _, rfl, _, rfl, a, hs, _, rfl, Same.seqT sm hT, T, by omega, by omega, _, hd, ?_, ?_, ?_⟩
      · rw [List.length_map, List.length_map, List.length_range]
        exact small1000 (by omega)
      · intro b o e
        have nb : b ≠ d := fun z => by rw [z, nd] at e; cases e
        rw [upd_ne nb]
        exact sm _ _ e
      · rw [upd_same, List.range_succ, List.map_append, List.map_append]
        show some (HO.lst (_ ++ [V.int (card hs (mx hs) (0 + (i : Int)))])) = some (HO.lst (_ ++ [V.int (card hs (mx hs) (i : Int))]))
        rw [Int.zero_add]
    · rintro H' ⟨sm, hd⟩
      refine ⟨d, _, rfl, .inl ⟨SqL.of hd, fun p np => ?_⟩⟩
      exact q _ p (sm.trans (same_upd np)) upd_same
theorem scOver : FnScope ["table"] ["table"] (defScope sOvertakings) := ⟨rfl, rfl, rfl, by decide +kernel, rfl, by decide +kernel, by decide +kernel⟩
theorem ok_overtakings (D : Df K mg "overtakings" sOvertakings ["table"]) (B : Bl mg) (GT : Pr P w K mg base "need_table" sNeedTable ["table"] 4 (spNeedT K)) (GH : Pr P w K mg base "held_of" sHeldOf ["table"] 4 (spHeldOf K))
    (G : Pr P w K mg base "cards_of" sCardsOf ["table"] 4 (spCards K)) : Pr P w K mg base "overtakings" sOvertakings ["table"] 5 (spOver K) := by
  refine D.ok scOver (fun vs H Q E h => ?_) (fun f cdv A outer s H vs Q E hr h => ?_)
  · obtain ⟨a, hs, rfl, _⟩ := h
    rfl
  · obtain ⟨a, hs, rfl, hT, T, q⟩ := h
    refine ⟨_, pss_cons (ps_expr (pe_pr GT hr (pa_cons (pv 0) pa_nil))) (pss_one (ps_ret (pe_op op_sub (pe_op op_mul (pe_callB call_len_seq rfl B.len PySem.boot_len (pa_cons (pv 0) pa_nil)) (pe_pr GH hr (pa_cons (pv 0) pa_nil)))
      (pe_callB (cr_sumT rfl) rfl B.sum boot_sum (pa_cons (pe_pr G hr (pa_cons (pv 0) pa_nil)) pa_nil))))), ?_⟩
    refine ⟨_, rfl, a, hs, rfl, hT, T, fun H' sm => ?_⟩
    have hT' := Same.seqT sm hT
    have hn := T.len
    refine ⟨_, rfl, a, _, rfl, .inr hT', _, rfl, a, hs, rfl, hT', T, _, _, rfl, rfl, .inl ⟨by rw [tv_len]; omega, by rw [tv_len]; omega⟩, ?_⟩
    refine ⟨_, rfl, a, hs, rfl, hT', T, fun H2 p s2 hp => ?_⟩
    refine ⟨p, _, rfl, SqT.of hp, _, _, rfl, rfl, ?_⟩
    show Q (.int ((((tv hs).length : Nat) : Int) * heldOf hs - ((List.range hs.length).map fun (t : Nat) => card hs (mx hs) t).sum)) H2
    rw [tv_len, S_list (fun t => card hs (mx hs) t)]
    exact q H2 (sm.trans s2)
end
end BA
set_option maxHeartbeats 4000000
namespace BA
open PySem PySem.Spec PyProof.Rows PyProof L2
/-! ### o.f as a target among others -/
def gFld (K : PySem.W.Frag) (ta : TE) (f : Str) : TG := fun v σ H Q => ta σ H fun x H1 => ∃ a C dx fs, x = .ref a ∧ H1 a = some (.ins C dx fs) ∧ Cls K C ∧ NoAttr K C f ∧ fs.length < 1000 ∧ Q σ (upd H1 a (.ins C dx (putF f v fs)))
theorem pg_fld {X : Cx} {o : Expr} {f : Str} {pos : Pos} {ta : TE} (ha : PE X o ta) : PG X (.Attribute o f pos) (gFld X.K ta f) := by
  refine ⟨fun pins s σ H v u Q I r h => ?_⟩
  rw [assign_Attribute]
  refine wpAny_bind (wpAny_holding (thn (ha.run pins s σ H _ I h) fun ov s1 ⟨x, H1, I1, rx, a, C, dx, fs, ex, ea, c, n, l, q⟩ => ?_))
  subst ex
  obtain rfl : ov = Value.ref a := rx
  exact wpAny_bind (wpAny_standAt (wpAny_bind (wpAny_holding (setattr_ok I1 ea c n l r fun s2 I2 => wpAny_release ⟨σ, _, I2, q⟩))))
/-! ### o[i] by an own __getitem__ -/
structure GetIt (K : PySem.W.Frag) (C g : Addr) : Prop where
  at_ : PySem.W.findIn K (.ref C) "__getitem__" = some (some (.ref g))
  fi : PySem.W.fnIn K g = true
  fn : PySem.W.isFn K (.ref g) = true
def tGetIt (C : Addr) (sp : Sp) (E : XK) (ta tb : TE) : TE := fun σ H Q => ta σ H fun x H1 => tb σ H1 fun y H2 => ∃ a dx fs, x = .ref a ∧ H2 a = some (.ins C dx fs) ∧ sp [.ref a, y] H2 Q E
theorem pe_getit {X : Cx} {k : Nat} {C g : Addr} {fd : FuncData} {ps : List Str} {sp : Sp} {a b : Expr} {ta tb : TE} {pos : Pos} (ha : PE X a ta) (hb : PE X b tb) (G : GetIt X.K C g) (F : FnOk X.prog X.w X.K X.mg X.base CX0 k g fd ps sp) (hr : Room (k + 1) X.A) (hB : Binds X.K fd ps [])
    (hsl : ∀ x i, subscripted b true (.ref x) i = runValue (.builtin "lifetime.subscript" ⟨[.ref x, i], []⟩) := by intro x i; with_unfolding_all rfl) :
    PE X (.Subscript a b pos) (tGetIt C sp E0 ta tb) := by
  refine ⟨fun pins s σ H Q I h => ?_⟩
  refine Subscript_ (binT ha hb I h fun v u s2 x y H2 I2 rx ry q => ?_)
  obtain ⟨p, dx, fs, ex, ep, q⟩ := q
  subst ex
  obtain rfl : v = Value.ref p := rx
  obtain ⟨mA, O, _⟩ := ins_get I2.hok ep
  obtain ⟨od, J, _⟩ := O.look
  obtain ⟨m, Fm⟩ := I2.fr
  refine PySem.W.sub_K Fm I2.ok.mod.kin J G.at_ G.fi G.fn (wpAny_call ?_) (hsl _ _)
  have hl : ([Value.ref p, u] ++ ([] : List Value)).length = ps.length := by rw [← F.len _ _ _ _ q]; rfl
  refine codeAny_mono (F.run X.A.in1 X.stack s2 H2 ⟨[.ref p, u], []⟩ [.ref p, u] [.ref p, y] Q E0 hr.in1 I2.env0.in1 (hB _ [.ref p, u] I2.kIn hl) (.cons rfl (.cons ry .nil)) q) fun r s' hq => ?_
  cases r with
  | error er => exact False.elim hq
  | ok fl =>
    cases fl with
    | ret w' => exact I2.after hq
    | next => exact False.elim hq
    | brk => exact False.elim hq
    | cont => exact False.elim hq
/-! ### a method that says super().m(..) as it returns -/
structure SupScope (N ps : List Str) (sc : Scope) : Prop where
  kind : sc.kind = .function
  co : sc.isCoroutine = false
  gen : sc.isGenerator = false
  nd : N.Nodup
  pre : N.take ps.length = ps
  par : ∀ x ∈ ps, sc.names.lookup x = some .local ∨ sc.names.lookup x = some .cell
  free : ∀ y ∈ sc.names, y.2 = .free → y.1 = ("__class__" : Str)
  cls : sc.names.lookup ("__class__" : Str) = some .free
  clu : ∀ y ∈ sc.names, y.1 = ("__class__" : Str) → y.2 = .free
  uniq : ∀ y ∈ sc.names, sc.names.lookup y.1 = some y.2
  slf : N[0]? = some ("self" : Str)
  sl : sc.names.lookup ("self" : Str) = some .local
  sup : sc.names.lookup ("super" : Str) = some .globalImplicit
/-- the context of its body -/
def scx (P : Program) (w : World) (K : PySem.W.Frag) (mg : Str → Option Value) (base : Heap) (N : List Str) (qual : Str) (scope : Scope) (f : Addr) (cd : Value) (cells : List (Str × Addr)) (A : Around) (outer : List Env) (s : Shared) (H : Hp) : Cx where
  prog := P
  w := w
  K := K
  mg := mg
  base := base
  A := A.deeper (PySem.W.envX qual scope s.heap.objs.size f cd cells)
  N := N
  s_0 := s
  H_0 := H
  env := PySem.W.envX qual scope s.heap.objs.size f cd cells
  outer := outer
  stack := PySem.W.envX qual scope s.heap.objs.size f cd cells :: outer
  ex := []
  calm := true
  fn := fun x => scope.names.lookup x == some .cell
  pn := []
  xe := fun _ _ => False
/-- the slots from the j-th on given values -/
def putAll (σ : L2.St) (j : Nat) : List V → L2.St
  | [] => σ
  | v :: vs => putAll (σ.set j (some v)) (j + 1) vs
theorem bind_all {X : Cx} {pins : List (Addr × Obj)} {H : Hp} {M : Model} {A : Around} {E : Value → Shared → Prop} (hN : X.N.Nodup) (f : Str × Value → PUnit → Sem (ForInStep PUnit)) (hf : ∀ n v u, f (n, v) u = (do storeName X.env n v; pure (.yield ⟨⟩))) :
    ∀ (ps : List Str) (us : List Value) (vs : List V) (j : Nat) (σ : L2.St) (s : Shared) (Q : PUnit → Shared → Prop), Inv X pins σ H s → Vals vs us → ps.length = us.length →
      (∀ i x, ps[i]? = some x → X.N[j + i]? = some x ∧ Loc X.env.scope x ∧ (X.fn x = true ∨ X.env.scope.names.lookup x = some .local)) → (∀ s', Inv X pins (putAll σ j vs) H s' → Q ⟨⟩ s') → wpAny M A (forIn (ps.zip us) ⟨⟩ f) Q E s
  | [], us, vs, j, σ, s, Q, I, r, hl, hp, h => by
    cases us with
    | nil =>
      cases r
      rw [List.zip_nil_left, List.forIn_nil]
      exact wpAny_pure (h s I)
    | cons u us => cases hl
  | p :: ps, us, vs, j, σ, s, Q, I, r, hl, hp, h => by
    cases us with
    | nil => cases hl
    | cons u us =>
      cases r with
      | cons r0 rr =>
        obtain ⟨h1, h2, h3⟩ := hp 0 p rfl
        rw [List.zip_cons_cons, List.forIn_cons, hf]
        refine wpAny_bind (wpAny_bind (store_ok I hN h1 h2 r0 (fun s' I' => wpAny_pure ?_) h3))
        exact bind_all hN f hf ps us _ (j + 1) _ s' Q I' rr (by simpa using hl) (fun i x e => by
          have q := hp (i + 1) x (by simpa using e)
          rw [show j + 1 + i = j + (i + 1) by omega]
          exact q) h
section
variable {P : Program} {w : World} {K : PySem.W.Frag} {mg : Str → Option Value} {base : Heap} {N ps : List Str} {qual : Str} {scope : Scope} {f cda cc D : Addr}
/-- the state behind the parameters' binding -/
theorem sup_start {A : Around} {outer : List Env} {s : Shared} {H : Hp} {cl : Value} {cld : Option Addr} {csl : Array (Option Value)} {us : List Value} {vs : List V} {E : Value → Shared → Prop} {M : Model} {A' : Around} {Q : Env → Shared → Prop} (S : SupScope N ps scope) (hd : A.handled = none) (e0 : Env0 P w K mg base A outer s H)
    (hl : vs.length = ps.length) (r : Vals vs us) (hcell : K.lookup cc = some ⟨cl, cld, .cell (some (.ref D)), csl⟩)
    (h : ∀ cells s', cells.lookup ("__class__" : Str) = some cc → Inv (scx P w K mg base N qual scope f (.ref cda) cells A outer s H) [] (putAll (List.replicate N.length none) 0 vs) H s' → Q (PySem.W.envX qual scope s.heap.objs.size f (.ref cda) cells) s') :
    wpAny M A' (newFunctionEnv scope mainGlobals [("__class__", cc)] (ps.zip us) (qual ++ ".<locals>.") (some f) (.ref cda) none builtinsNs) Q E s := by
  have KX : K.In s.heap := e0.mod.kin.keeps fun b o e => (e0.bs b o e).1
  have hcc := KX _ _ hcell
  simp only [newFunctionEnv, Option.isSome_none, Bool.false_eq_true, if_false]
  refine wpAny_bind (wpAny_alloc ?_)
  refine wpAny_bind (wpAny_layCells _ (fun name kind cells => by cases hkc : kind == NameKind.cell <;> simp [hkc]) _ _ _ _ ?_)
  generalize hh1 : s.heap.push { cls := .type "frame", data := .dict #[] } = h1
  have sz1 : h1.objs.size = s.heap.objs.size + 1 := by rw [← hh1, Heap.size_push]
  have kp1 : ∀ b o, s.heap.get? b = some o → h1.get? b = some o := fun b o e => by rw [← hh1]; exact Heap.get?_push_of_some _ e
  have kp : ∀ b o, s.heap.get? b = some o → (pushCells h1 scope.names).get? b = some o := fun b o e => pushCells_keeps _ _ _ _ (kp1 b o e)
  show wpAny M A' _ Q E { s with heap := pushCells h1 scope.names }
  generalize hcs : cellsFrom h1.objs.size scope.names [("__class__", cc)] = cells
  have accS : ∀ p ∈ [(("__class__" : Str), cc)], p.2 < h1.objs.size := fun p hp => by
    obtain rfl := List.mem_singleton.mp hp
    exact Heap.lt_size (kp1 _ _ hcc)
  have mem : ∀ {x c}, cells.lookup x = some c → (x = ("__class__" : Str) ∧ c = cc) ∨ ((x, NameKind.cell) ∈ scope.names ∧ h1.objs.size ≤ c ∧ CellAt (pushCells h1 scope.names) c none) := fun {x c} e => by
    have m := PySem.mem_of_lookup e
    rw [← hcs] at m
    rcases cells_mem m with q | q
    · have z := List.mem_singleton.mp q
      exact .inl ⟨congrArg Prod.fst z, congrArg Prod.snd z⟩
    · exact .inr q
  have lookC : cells.lookup ("__class__" : Str) = some cc := by
    obtain ⟨c', e⟩ := mem_lookup (l := cells) (n := ("__class__" : Str)) (c := cc) (by rw [← hcs]; exact cells_acc List.mem_cons_self)
    rcases mem e with ⟨_, z⟩ | ⟨z, _⟩
    · rw [e, z]
    · have q := S.clu _ z rfl
      cases q
  have I0 : Inv (scx P w K mg base N qual scope f (.ref cda) cells A outer s H) [] (List.replicate N.length none) H { s with heap := pushCells h1 scope.names } := by
    have noA : ∀ b : Addr, b ∉ (scx P w K mg base N qual scope f (.ref cda) cells A outer s H).ex := fun b z => absurd (show b ∈ ([] : List Addr) from z) (by simp)
    refine ⟨⟨e0.mod, S.kind, rfl, rfl, Nat.le_refl _, fun x y c a b => ?_, fun x hx => ?_, fun x c hx e => ?_, fun _ => hd, Around.frames_deeper e0.frames, .inr ⟨rfl, rfl⟩, fun b z => absurd z (noA b), e0.bs, e0.bsz, fun b _ _ => noA b, fun b z => absurd z (noA b), e0.funs, e0.frf⟩,
      rfl, e0.bare, Un.kept kp, ⟨fun _ => none, ?_, fun i x v e1 e2 e3 => ?_⟩, fun x c e => ?_, e0.hok.fresh (Nat.le_refl _), fun x c e => ?_, fun p hp => absurd (show p ∈ ([] : List (Addr × Obj)) from hp) (by simp), e0.hok.kept kp, by simp [scx]⟩
    · have a' := PySem.mem_of_lookup (show cells.lookup x = some c from a)
      have b' := PySem.mem_of_lookup (show cells.lookup y = some c from b)
      rw [← hcs] at a' b'
      exact cells_inj accS (fun x y c h1 h2 => by
        have z1 := List.mem_singleton.mp h1
        have z2 := List.mem_singleton.mp h2
        exact (congrArg Prod.fst z1).trans (congrArg Prod.fst z2).symm) a' b'
    · have hx : scope.names.lookup x = some .cell ∨ scope.names.lookup x = some .free := hx
      rcases hx with q | q
      · obtain ⟨c, hc⟩ := cells_has (names := scope.names) (n := h1.objs.size) (acc := [(("__class__" : Str), cc)]) (PySem.mem_of_lookup q)
        rw [hcs] at hc
        exact mem_lookup hc
      · have z := S.free _ (PySem.mem_of_lookup q) rfl
        have z : x = ("__class__" : Str) := z
        rw [z]
        exact ⟨cc, lookC⟩
    · have hx : (scope.names.lookup x == some NameKind.cell) = true := hx
      have hx := beq_iff_eq.mp hx
      rcases mem (show cells.lookup x = some c from e) with ⟨z, _⟩ | ⟨_, z, _⟩
      · rw [z, S.cls] at hx
        cases hx
      · exact Nat.le_trans (by rw [sz1]; exact Nat.le_succ _) z
    · have n := Heap.Ns.new s.heap (.type "frame")
      rw [hh1] at n
      exact n.keeps (pushCells_keeps _ _)
    · have e2 : (List.replicate N.length (none : Option V))[i]? = some (some v) := e2
      rw [List.getElem?_replicate] at e2
      split at e2 <;> cases e2
    · rcases mem (show cells.lookup x = some c from e) with ⟨_, z⟩ | ⟨_, _, z⟩
      · exact ⟨_, ⟨_, by rw [z]; exact kp _ _ hcc, rfl⟩⟩
      · exact ⟨_, z⟩
    · rcases mem (show cells.lookup x = some c from e) with ⟨_, z⟩ | ⟨_, z, _⟩
      · rw [z]
        exact (e0.bs _ _ (e0.mod.kin _ _ hcell)).2
      · exact e0.hok.fresh (Nat.le_trans (by rw [sz1]; exact Nat.le_succ _) z)
  refine wpAny_bind (bind_all (X := scx P w K mg base N qual scope f (.ref cda) cells A outer s H) S.nd _ (fun _ _ _ => rfl) ps us vs 0 _ _ _ I0 r (by rw [← r.length]; exact hl.symm) (fun i x e => ?_) fun s' I' => wpAny_pure ?_)
  · have hx : x ∈ ps := List.mem_of_getElem? e
    refine ⟨?_, S.par x hx, ?_⟩
    · have hi : i < ps.length := (List.getElem?_eq_some_iff.mp e).1
      rw [Nat.zero_add]
      rw [← S.pre, List.getElem?_take_of_lt (by simpa [S.pre] using hi)] at e
      exact e
    · rcases S.par x hx with q | q
      · exact .inr q
      · exact .inl (by show (scope.names.lookup x == some NameKind.cell) = true; rw [q]; rfl)
  · exact h cells s' lookC I'
/-- what the text of such a def is: a statement, then return super().m(args) -/
theorem fn_super {k : Nat} {name m : Str} {params : Arguments} {st : Stmt} {e : Expr} {es : List Expr} {dV kV doc pm ct oc : Value} {an od : Option Addr} {osl : Array (Option Value)} {p0 p1 ap pos rp : Pos} {pl : Sem Bool} {sp sp2 : Sp} {C f2 : Addr} {vs : Array Value} {file : Str} {tf : Tok} {ccl cl : Value} {cdd cld : Option Addr} {ccs csl : Array (Option Value)} {cdD : ClassData}
    (lk : K.lookup f = some ⟨oc, od, .func (PySem.W.ksFn name qual params [st, .Return (some (.Call (.Attribute (.Call (.Name "super" p0) [] [] p1) m ap) (e :: es) [] pos)) rp] scope dV kV doc pm an (.ref cda) ct cc), osl⟩) (hcd : PySem.W.codeIn K (.ref cda) qual = true) (S : SupScope N ps scope)
    (har : ∃ ar, (params.posonlyargs ++ params.args).head? = some ar ∧ ar.arg = ("self" : Str))
    (hb : ∀ us : List Value, us.length = ps.length → bindArgs (PySem.W.ksFn name qual params [st, .Return (some (.Call (.Attribute (.Call (.Name "super" p0) [] [] p1) m ap) (e :: es) [] pos)) rp] scope dV kV doc pm an (.ref cda) ct cc) ⟨us, []⟩ = pure (ps.zip us))
    (hcode : K.lookup cda = some ⟨ccl, cdd, .fields vs, ccs⟩) (hvs : vs[2]? = some (.str file tf)) (hfile : ((P.main.file : Str) == file) = true) (htop : (P.main.scope.names.lookup ("super" : Str)).isSome = false)
    (hcell : K.lookup cc = some ⟨cl, cld, .cell (some (.ref D)), csl⟩) (hD : PySem.W.clsIn K D = some cdD) (hsub : PySem.W.mroIn K C (.ref D) = some true) (hop : PySem.W.nsIn K cStatics "thirdparty.any" = some none)
    (hm : PySem.W.ks_superIn K C D m = some (some (.ref f2))) (ht : PySem.W.typeIn K (.ref f2) = some (.type "function")) (hf2 : PySem.W.fnIn K f2 = true) (hat : (m == ("__class__" : Str)) = false) (gS : mg "super" = none) (hboot : bootBuiltins "super" = some (.type "super"))
    (len : ∀ vs H Q E, sp vs H Q E → vs.length = ps.length) (F2 : FnR P w K mg base CX0 k f2 sp2)
    (he : ∀ (cells : List (Str × Addr)) (L : Addr), eval (.Call (.Attribute (.Call (.Name "super" p0) [] [] p1) m ap) (e :: es) [] pos) (PySem.W.envX qual scope L f (.ref cda) cells) = (do
      let ov ← attributeBase (.Call (.Name "super" p0) [] [] p1) m (PySem.W.envX qual scope L f (.ref cda) cells) (eval (.Call (.Name "super" p0) [] [] p1) (PySem.W.envX qual scope L f (.ref cda) cells))
      standAt ap.atName
      let (g0, first) ← holding [ov] (getMethod ov m pl)
      callWith pos g0 first (backTo pos (starEach (e :: es) (PySem.W.envX qual scope L f (.ref cda) cells))) []))
    (hse : ∀ env, starEach (e :: es) env = (false, eval e env) :: starEach es env) (hpl : ∀ env, (backTo pos (starEach es env)).any (·.1) = false)
    (hbody : ∀ (cells : List (Str × Addr)) (A : Around) (outer : List Env) (s : Shared) (H : Hp) (vs : List V) (Q : VK) (E : XK), Room k (A.deeper (PySem.W.envX qual scope s.heap.objs.size f (.ref cda) cells)) → sp vs H Q E →
      ∃ t ta, PS (scx P w K mg base N qual scope f (.ref cda) cells A outer s H) st t ∧ PA (scx P w K mg base N qual scope f (.ref cda) cells A outer s H) (e :: es) ta ∧
        t { nx := fun σ H1 => ∃ x dx fs, σ[0]? = some (some (V.ref x)) ∧ H1 x = some (.ins C dx fs) ∧ Cls K C ∧ ∀ q, H1 q = none → ta σ (upd H1 q (.met f2 x)) fun ws H2 => H2 q = some (.met f2 x) ∧ sp2 (V.ref x :: ws) H2 Q E0, rt := Q } (putAll (List.replicate N.length none) 0 vs) H) :
    FnR P w K mg base CX0 (k + 1) f sp := by
  intro A outer s H us ws Q E hr e0 r hsp
  have hl := len _ _ _ _ hsp
  have KX : K.In s.heap := e0.mod.kin.keeps fun b o e => (e0.bs b o e).1
  refine codeAny_call_function hr.depth (KX _ _ lk) rfl S.co S.gen rfl (PySem.W.codeRec_of KX hcd) ?_
  rw [hb us (by rw [← r.length]; exact hl)]
  refine wpAny_pure (sup_start S hr.hd e0 hl r hcell fun cells s1 lookC I => ?_)
  obtain ⟨t, ta, hst, hta, hq⟩ := hbody cells A outer s H ws Q E (hr.deeper _) hsp
  refine ⟨I.nolimit, ks_codeAny_funcAt ?_⟩
  have fin : ∀ {σ' : L2.St} {H' : Hp} {v : V} {u : Value} {s' : Shared}, Inv (scx P w K mg base N qual scope f (.ref cda) cells A outer s H) [] σ' H' s' → RelV v u → Q v H' → CE outer P w H s Q u s' :=
    fun {σ' H' v u s'} J rv q => ⟨v, H', J.os, J.bare, J.base, J.hok, rv, q⟩
  refine ks_wpAt_mono (Q := fun fl s' => ∃ u, fl = .ret u ∧ CE outer P w H s Q u s') (E := fun _ _ => False) ?_ (fun fl s' ⟨u, e1, q⟩ => by subst e1; exact q) fun _ _ z => z.elim
  refine ks_wpAt_execs_cons (wpAt_of_wpAny (wpAny_mono (hst.run [] s1 _ H _ I hq) (fun fl s2 h2 => ?_) fun _ _ z => z))
  cases fl with
  | ret u =>
    obtain ⟨v, σ2, H2, J, rv, q⟩ := h2
    exact ⟨u, rfl, fin J rv q⟩
  | brk =>
    obtain ⟨_, _, _, q⟩ := h2
    exact False.elim q
  | cont =>
    obtain ⟨_, _, _, q⟩ := h2
    exact False.elim q
  | next =>
    obtain ⟨σ2, H2, I2, x, dx, fs, hx0, hx, hcl, q⟩ := h2
    refine ks_wpAt_execs_cons (ks_wpAt_Return_some (ks_wpAt_MethodCall (pl := pl) ?_ (he cells _)))
    have K2 : K.In s2.heap := I2.kIn
    obtain ⟨ar, ha1, ha2⟩ := har
    obtain ⟨oD, hD1, hD2⟩ : ∃ oD, s2.heap.get? D = some oD ∧ oD.data = .cls cdD := by
      unfold PySem.W.clsIn at hD
      split at hD
      · rename_i c d cd' sl ho
        cases hD
        exact ⟨_, K2 _ _ ho, rfl⟩
      · cases hD
    obtain ⟨mA, O, _⟩ := ins_get I2.hok hx
    obtain ⟨od2, J2, _⟩ := O.look
    obtain ⟨mm, hns, hloc⟩ := I2.loc
    obtain ⟨u0, ru0, lu0⟩ := hloc 0 ("self" : Str) (V.ref x) S.slf hx0 (.inl S.sl)
    obtain rfl : u0 = Value.ref x := ru0
    have hself : mm ("self" : Str) = some (.ref x) := by
      rcases lu0 with ⟨_, z⟩ | ⟨z, _⟩
      · exact z
      · have z : scope.names.lookup ("self" : Str) = some .cell ∨ scope.names.lookup ("self" : Str) = some .free := z
        rw [S.sl] at z
        rcases z with z | z <;> cases z
    refine ks_wpAt_super_base (env := PySem.W.envX qual scope s.heap.objs.size f (.ref cda) cells) S.sup S.cls hat rfl (K2 _ _ lk) rfl ha1 rfl (K2 _ _ hcode) rfl hvs hfile htop ?_
    obtain ⟨mb, b1, b2⟩ := I2.mod.blt
    refine PySem.W.ks_loadName_global S.kind S.sup (Calls.loadGlobal_builtin (I2.mod.glob.keeps I2.bk) gS (b1.keeps I2.bk) ((b2 _ (by decide +kernel)).trans hboot) ⟨rfl, ?_⟩)
    refine wpAny_loadName_free S.kind S.cls lookC ⟨_, K2 _ _ hcell, rfl⟩ ?_
    rw [ha2]
    refine wpAny_loadName_local S.kind S.sl hns hself ?_
    refine ks_wpAny_isType_cls hD1 hD2 ⟨rfl, ?_⟩
    obtain ⟨hh2, g2, d2, t2, os2⟩ := s2
    refine ks_wpAny_call_super hD1 hD2 J2.at_ J2.cls (fun c z => ?_) (PySem.W.looks_mroIn K2 hsub) (fun h3 e3 k3 => ?_)
    · have no := J2.no
      unfold PySem.W.notCls at no
      rw [z] at no
      exact Bool.noConfusion no
    · have I3 := I2.kept (h' := h3) (t' := t2) k3
      have K3 : K.In h3 := I3.kIn
      obtain ⟨mA3, O3, _⟩ := ins_get I3.hok hx
      obtain ⟨od3, J3, _⟩ := O3.look
      cases hc : PySem.W.clsIn K C with
      | none => unfold PySem.W.ks_superIn at hm; rw [hc] at hm; cases hm
      | some cd =>
        unfold PySem.W.ks_superIn at hm
        rw [hc] at hm
        obtain ⟨of, hof, hofc⟩ : ∃ of, h3.get? f2 = some of ∧ of.cls = .type "function" := by
          have ht' : (K.lookup f2).map (·.cls) = some (.type "function") := ht
          cases z : K.lookup f2 with
          | none => rw [z] at ht'; cases ht'
          | some of => rw [z] at ht'; exact ⟨of, K3 _ _ z, Option.some.inj ht'⟩
        refine ks_wpAny_getMethod_super (l₀ := cd.mro) e3 (PySem.W.looks_opaque K3 hop) (fun A Q E s k q => wpAny_bind ((PySem.W.looks_clsIn K3 hc) A _ E s k (wpAny_pure q))) rfl K3 hm hof hofc (PySem.W.ks_ne K3 J3 hc) hat ?_
        have nq : H2 h3.objs.size = none := I3.hok.fresh (Nat.le_refl _)
        have I4 : Inv (scx P w K mg base N qual scope f (.ref cda) cells A outer s H) [] σ2 (upd H2 h3.objs.size (.met f2 x)) ⟨h3.push (PySem.W.methodObj (.ref f2) (.ref x)), g2, d2, t2 + 1, os2⟩ :=
          I3.laid (t' := t2 + 1) (a := h3.objs.size) (o := .met f2 x) (fun b u z => Heap.get?_push_of_some _ z) (Nat.le_refl _)
            (show (h3.push (PySem.W.methodObj (.ref f2) (.ref x))).get? h3.objs.size = some (PySem.W.methodObj (.ref f2) (.ref x)) from Heap.get?_push_size h3 rfl)
        have run := hta.run pos [] _ σ2 _ _ I4 (q _ nq)
        rw [show (scx P w K mg base N qual scope f (.ref cda) cells A outer s H).env = PySem.W.envX qual scope s.heap.objs.size f (.ref cda) cells from rfl, hse] at run
        show wpAny (model P w) (A.deeper (PySem.W.envX qual scope s.heap.objs.size f (.ref cda) cells)) (callWith pos (.ref h3.objs.size) [] (backTo pos (starEach (e :: es) (PySem.W.envX qual scope s.heap.objs.size f (.ref cda) cells))) []) _ _ _
        rw [hse]
        refine callwith_met (X := scx P w K mg base N qual scope f (.ref cda) cells A outer s H) (g := f2) (a := x) ?_ hf2 (Calls.evalArgs_plain (thn run fun us' s5 ⟨ws', H5, I5, r5, hm5, q5⟩ => ⟨met_P I5 hm5, ?_⟩))
        · show ((false || (backTo pos (starEach es (PySem.W.envX qual scope s.heap.objs.size f (.ref cda) cells))).any (·.1)) || false) = false
          rw [hpl]
          rfl
        · exact thn (wpAny_call (PySem.W.method_call (met_P I5 hm5).1 (run_fnR (us := Value.ref x :: us') (vs := V.ref x :: ws') F2 (hr.deeper _) pass0 I5 (.cons rfl r5) q5))) fun v s6 ⟨v', H6, I6, rv, q6⟩ => ⟨v, rfl, fin I6 rv q6⟩
end
end BA
set_option maxHeartbeats 4000000
namespace BA
open PySem PySem.Spec PyProof.Rows PyProof L2
/-! ### attributes by name -/
theorem lk_here {k : Str} {v : V} {r : List (Str × V)} : List.lookup k ((k, v) :: r) = some v := by
  have e : (k == k) = true := beq_self_eq_true k
  simp only [List.lookup, e]
theorem lk_past {k g : Str} {v : V} {r : List (Str × V)} (h : (k == g) = false) : List.lookup k ((g, v) :: r) = List.lookup k r := by
  simp only [List.lookup, h]
theorem put_here {f : Str} {v x : V} {r : List (Str × V)} : putF f v ((f, x) :: r) = (f, v) :: r := if_pos rfl
theorem put_past {f g : Str} {v x : V} {r : List (Str × V)} (h : ¬ g = f) : putF f v ((g, x) :: r) = (g, x) :: putF f v r := if_neg h
theorem put_nil {f : Str} {v : V} : putF f v [] = [(f, v)] := rfl
/-- a stand's attributes -/
def sf (v0 v1 v2 v3 v4 v5 v6 v7 v8 v9 : V) : List (Str × V) := [("own", v0), ("begin", v1), ("coming", v2), ("ins", v3), ("outs", v4), ("due", v5), ("cuts", v6), ("gone", v7), ("many", v8), ("later", v9)]
section
variable {v0 v1 v2 v3 v4 v5 v6 v7 v8 v9 x : V}
theorem sf_own : (sf v0 v1 v2 v3 v4 v5 v6 v7 v8 v9).lookup ("own" : Str) = some v0 := lk_here
theorem sf_begin : (sf v0 v1 v2 v3 v4 v5 v6 v7 v8 v9).lookup ("begin" : Str) = some v1 := (lk_past (by decide +kernel)).trans lk_here
theorem sf_coming : (sf v0 v1 v2 v3 v4 v5 v6 v7 v8 v9).lookup ("coming" : Str) = some v2 := (lk_past (by decide +kernel)).trans ((lk_past (by decide +kernel)).trans lk_here)
theorem sf_ins : (sf v0 v1 v2 v3 v4 v5 v6 v7 v8 v9).lookup ("ins" : Str) = some v3 := (lk_past (by decide +kernel)).trans ((lk_past (by decide +kernel)).trans ((lk_past (by decide +kernel)).trans lk_here))
theorem sf_outs : (sf v0 v1 v2 v3 v4 v5 v6 v7 v8 v9).lookup ("outs" : Str) = some v4 := (lk_past (by decide +kernel)).trans ((lk_past (by decide +kernel)).trans ((lk_past (by decide +kernel)).trans ((lk_past (by decide +kernel)).trans lk_here)))
theorem sf_due : (sf v0 v1 v2 v3 v4 v5 v6 v7 v8 v9).lookup ("due" : Str) = some v5 := (lk_past (by decide +kernel)).trans ((lk_past (by decide +kernel)).trans ((lk_past (by decide +kernel)).trans ((lk_past (by decide +kernel)).trans ((lk_past (by decide +kernel)).trans lk_here))))
theorem sf_cuts : (sf v0 v1 v2 v3 v4 v5 v6 v7 v8 v9).lookup ("cuts" : Str) = some v6 := (lk_past (by decide +kernel)).trans ((lk_past (by decide +kernel)).trans ((lk_past (by decide +kernel)).trans ((lk_past (by decide +kernel)).trans ((lk_past (by decide +kernel)).trans ((lk_past (by decide +kernel)).trans lk_here)))))
theorem sf_gone : (sf v0 v1 v2 v3 v4 v5 v6 v7 v8 v9).lookup ("gone" : Str) = some v7 := (lk_past (by decide +kernel)).trans ((lk_past (by decide +kernel)).trans ((lk_past (by decide +kernel)).trans ((lk_past (by decide +kernel)).trans ((lk_past (by decide +kernel)).trans ((lk_past (by decide +kernel)).trans ((lk_past (by decide +kernel)).trans lk_here))))))
theorem sf_many : (sf v0 v1 v2 v3 v4 v5 v6 v7 v8 v9).lookup ("many" : Str) = some v8 := (lk_past (by decide +kernel)).trans ((lk_past (by decide +kernel)).trans ((lk_past (by decide +kernel)).trans ((lk_past (by decide +kernel)).trans ((lk_past (by decide +kernel)).trans ((lk_past (by decide +kernel)).trans ((lk_past (by decide +kernel)).trans ((lk_past (by decide +kernel)).trans lk_here)))))))
theorem sf_later : (sf v0 v1 v2 v3 v4 v5 v6 v7 v8 v9).lookup ("later" : Str) = some v9 := (lk_past (by decide +kernel)).trans ((lk_past (by decide +kernel)).trans ((lk_past (by decide +kernel)).trans ((lk_past (by decide +kernel)).trans ((lk_past (by decide +kernel)).trans ((lk_past (by decide +kernel)).trans ((lk_past (by decide +kernel)).trans ((lk_past (by decide +kernel)).trans ((lk_past (by decide +kernel)).trans lk_here))))))))
theorem put_begin : putF "begin" x (sf v0 v1 v2 v3 v4 v5 v6 v7 v8 v9) = sf v0 x v2 v3 v4 v5 v6 v7 v8 v9 := by
  unfold sf
  rw [put_past (by decide +kernel), put_here]
theorem put_coming : putF "coming" x (sf v0 v1 v2 v3 v4 v5 v6 v7 v8 v9) = sf v0 v1 x v3 v4 v5 v6 v7 v8 v9 := by
  unfold sf
  rw [put_past (by decide +kernel), put_past (by decide +kernel), put_here]
theorem put_ins : putF "ins" x (sf v0 v1 v2 v3 v4 v5 v6 v7 v8 v9) = sf v0 v1 v2 x v4 v5 v6 v7 v8 v9 := by
  unfold sf
  rw [put_past (by decide +kernel), put_past (by decide +kernel), put_past (by decide +kernel), put_here]
theorem put_outs : putF "outs" x (sf v0 v1 v2 v3 v4 v5 v6 v7 v8 v9) = sf v0 v1 v2 v3 x v5 v6 v7 v8 v9 := by
  unfold sf
  rw [put_past (by decide +kernel), put_past (by decide +kernel), put_past (by decide +kernel), put_past (by decide +kernel), put_here]
theorem put_due : putF "due" x (sf v0 v1 v2 v3 v4 v5 v6 v7 v8 v9) = sf v0 v1 v2 v3 v4 x v6 v7 v8 v9 := by
  unfold sf
  rw [put_past (by decide +kernel), put_past (by decide +kernel), put_past (by decide +kernel), put_past (by decide +kernel), put_past (by decide +kernel), put_here]
theorem put_cuts : putF "cuts" x (sf v0 v1 v2 v3 v4 v5 v6 v7 v8 v9) = sf v0 v1 v2 v3 v4 v5 x v7 v8 v9 := by
  unfold sf
  rw [put_past (by decide +kernel), put_past (by decide +kernel), put_past (by decide +kernel), put_past (by decide +kernel), put_past (by decide +kernel), put_past (by decide +kernel), put_here]
theorem put_gone : putF "gone" x (sf v0 v1 v2 v3 v4 v5 v6 v7 v8 v9) = sf v0 v1 v2 v3 v4 v5 v6 x v8 v9 := by
  unfold sf
  rw [put_past (by decide +kernel), put_past (by decide +kernel), put_past (by decide +kernel), put_past (by decide +kernel), put_past (by decide +kernel), put_past (by decide +kernel), put_past (by decide +kernel), put_here]
theorem put_many : putF "many" x (sf v0 v1 v2 v3 v4 v5 v6 v7 v8 v9) = sf v0 v1 v2 v3 v4 v5 v6 v7 x v9 := by
  unfold sf
  rw [put_past (by decide +kernel), put_past (by decide +kernel), put_past (by decide +kernel), put_past (by decide +kernel), put_past (by decide +kernel), put_past (by decide +kernel), put_past (by decide +kernel), put_past (by decide +kernel), put_here]
theorem put_later : putF "later" x (sf v0 v1 v2 v3 v4 v5 v6 v7 v8 v9) = sf v0 v1 v2 v3 v4 v5 v6 v7 v8 x := by
  unfold sf
  rw [put_past (by decide +kernel), put_past (by decide +kernel), put_past (by decide +kernel), put_past (by decide +kernel), put_past (by decide +kernel), put_past (by decide +kernel), put_past (by decide +kernel), put_past (by decide +kernel), put_past (by decide +kernel), put_here]
/-- the ten stores of a new stand -/
theorem sf_made : putF "later" v9 (putF "many" v8 (putF "gone" v7 (putF "cuts" v6 (putF "due" v5 (putF "outs" v4 (putF "ins" v3 (putF "coming" v2 (putF "begin" v1 (putF "own" v0 []))))))))) = sf v0 v1 v2 v3 v4 v5 v6 v7 v8 v9 := by
  unfold sf
  rw [put_nil]
  simp only [put_past (show ¬ ("own" : Str) = "begin" by decide +kernel), put_past (show ¬ ("own" : Str) = "coming" by decide +kernel), put_past (show ¬ ("own" : Str) = "ins" by decide +kernel), put_past (show ¬ ("own" : Str) = "outs" by decide +kernel), put_past (show ¬ ("own" : Str) = "due" by decide +kernel), put_past (show ¬ ("own" : Str) = "cuts" by decide +kernel), put_past (show ¬ ("own" : Str) = "gone" by decide +kernel), put_past (show ¬ ("own" : Str) = "many" by decide +kernel), put_past (show ¬ ("own" : Str) = "later" by decide +kernel),
    put_past (show ¬ ("begin" : Str) = "coming" by decide +kernel), put_past (show ¬ ("begin" : Str) = "ins" by decide +kernel), put_past (show ¬ ("begin" : Str) = "outs" by decide +kernel), put_past (show ¬ ("begin" : Str) = "due" by decide +kernel), put_past (show ¬ ("begin" : Str) = "cuts" by decide +kernel), put_past (show ¬ ("begin" : Str) = "gone" by decide +kernel), put_past (show ¬ ("begin" : Str) = "many" by decide +kernel), put_past (show ¬ ("begin" : Str) = "later" by decide +kernel),
    put_past (show ¬ ("coming" : Str) = "ins" by decide +kernel), put_past (show ¬ ("coming" : Str) = "outs" by decide +kernel), put_past (show ¬ ("coming" : Str) = "due" by decide +kernel), put_past (show ¬ ("coming" : Str) = "cuts" by decide +kernel), put_past (show ¬ ("coming" : Str) = "gone" by decide +kernel), put_past (show ¬ ("coming" : Str) = "many" by decide +kernel), put_past (show ¬ ("coming" : Str) = "later" by decide +kernel),
    put_past (show ¬ ("ins" : Str) = "outs" by decide +kernel), put_past (show ¬ ("ins" : Str) = "due" by decide +kernel), put_past (show ¬ ("ins" : Str) = "cuts" by decide +kernel), put_past (show ¬ ("ins" : Str) = "gone" by decide +kernel), put_past (show ¬ ("ins" : Str) = "many" by decide +kernel), put_past (show ¬ ("ins" : Str) = "later" by decide +kernel),
    put_past (show ¬ ("outs" : Str) = "due" by decide +kernel), put_past (show ¬ ("outs" : Str) = "cuts" by decide +kernel), put_past (show ¬ ("outs" : Str) = "gone" by decide +kernel), put_past (show ¬ ("outs" : Str) = "many" by decide +kernel), put_past (show ¬ ("outs" : Str) = "later" by decide +kernel),
    put_past (show ¬ ("due" : Str) = "cuts" by decide +kernel), put_past (show ¬ ("due" : Str) = "gone" by decide +kernel), put_past (show ¬ ("due" : Str) = "many" by decide +kernel), put_past (show ¬ ("due" : Str) = "later" by decide +kernel),
    put_past (show ¬ ("cuts" : Str) = "gone" by decide +kernel), put_past (show ¬ ("cuts" : Str) = "many" by decide +kernel), put_past (show ¬ ("cuts" : Str) = "later" by decide +kernel),
    put_past (show ¬ ("gone" : Str) = "many" by decide +kernel), put_past (show ¬ ("gone" : Str) = "later" by decide +kernel), put_past (show ¬ ("many" : Str) = "later" by decide +kernel), put_nil]
end
/-! ### what a row holds -/
/-- what comes out at tick v, of the values that came in -/
noncomputable def outV (hs : List Nat) (vals : List V) (v : Nat) : V := if 0 ≤ thing hs v then vals.getD (thing hs v).toNat .non else .non
noncomputable def outsOf (hs : List Nat) (vals : List V) : List V := (List.range vals.length).map fun (v : Nat) => outV hs vals v
/-- the things, of the first n, that come out at tick u or behind it -/
def waits (hs : List Nat) (n : Nat) (u : Int) : List Nat := (List.range n).filter fun (t : Nat) => decide (u ≤ out hs (t : Nat))
def dueL (hs : List Nat) (p : Nat → Addr) (ts : List Nat) : List (Key × V) := ts.map fun (t : Nat) => ((Sum.inl (out hs (t : Nat)) : Key), V.ref (p t))
/-- the dict at d: for each tick at which a value comes out, when it came in, and the value -/
def DueAt (H : Hp) (d : Addr) (hs : List Nat) (vals : List V) (ts : List Nat) : Prop := ∃ p : Nat → Addr, H d = some (.dK (dueL hs p ts)) ∧ ∀ t, t ∈ ts → H (p t) = some (.tup [.int (t : Nat), vals.getD t .non])
/-- the stand at st, new behind H0: what came in is vals; many: the overtakings -/
def StandAt (Cs : Addr) (H0 H : Hp) (st a : Addr) (hs : List Nat) (vals : List V) (m : Int) : Prop :=
  ∃ dx com li lo d cu go la : Addr, H0 st = none ∧ H0 li = none ∧ H0 lo = none ∧ H0 d = none ∧ li ≠ lo ∧ d ≠ la ∧
    H st = some (.ins Cs dx (sf (.ref a) (.int 0) (.ref com) (.ref li) (.ref lo) (.ref d) (.ref cu) (.ref go) (.int m) (.ref la))) ∧
    H com = some (.tup []) ∧ H li = some (.lst vals) ∧ H lo = some (.lst (outsOf hs vals)) ∧ DueAt H d hs vals (waits hs vals.length (vals.length : Nat)) ∧ H cu = some (.tup []) ∧ H go = some (.tup []) ∧ H la = some (.dK [])
abbrev H00 : Hp := fun _ => none
theorem same00 (H : Hp) : Same H00 H := fun _ _ e => nomatch e
/-- the overtakings that n ticks count -/
noncomputable def manyOf (hs : List Nat) (n : Nat) : Int := S n (fun v => if 0 ≤ thing hs v then adds hs (thing hs v) else 0)
/-- the row of class C at r: its stands' list at L -/
def RowAt (C Cs : Addr) (c : Bool) (H : Hp) (r L a : Addr) (hs : List Nat) (vals : List V) : Prop :=
  ∃ (dx : Addr) (sts : List V) (st : Addr), H r = some (.ins C dx [("stands", .ref L)]) ∧ H L = some (.lst (sts ++ [.ref st])) ∧ sts.length ≤ vals.length ∧ StandAt Cs H00 H st a hs vals (if c = true then manyOf hs vals.length else 0)
/-- all that was tracked is as it was, but for what stands at l -/
def SameBut (l : Addr) (H H' : Hp) : Prop := ∀ b o, b ≠ l → H b = some o → H' b = some o
theorem SameBut.of {l : Addr} {H H' : Hp} (h : Same H H') : SameBut l H H' := fun b o _ e => h b o e
theorem SameBut.trans {l : Addr} {H H1 H2 : Hp} (a : SameBut l H H1) (b : SameBut l H1 H2) : SameBut l H H2 := fun c o n e => b c o n (a c o n e)
theorem SameBut.upd {l : Addr} {H : Hp} {o : HO} : SameBut l H (upd H l o) := fun b x n e => by rw [upd_ne n]; exact e
theorem StandAt.weak {Cs : Addr} {H0 H : Hp} {st a : Addr} {hs : List Nat} {vals : List V} {m : Int} (h : StandAt Cs H0 H st a hs vals m) : StandAt Cs H00 H st a hs vals m := by
  obtain ⟨dx, com, li, lo, d, cu, go, la, _, _, _, _, r⟩ := h
  exact ⟨dx, com, li, lo, d, cu, go, la, rfl, rfl, rfl, rfl, r⟩
theorem DueAt.same {H H' : Hp} {d : Addr} {hs : List Nat} {vals : List V} {ts : List Nat} (h : DueAt H d hs vals ts) (k : ∀ b o, H b = some o → H' b = some o) : DueAt H' d hs vals ts := by
  obtain ⟨p, a, b⟩ := h
  exact ⟨p, k _ _ a, fun t ht => k _ _ (b t ht)⟩
/-- a stand stays where all but a list that is none of its own stays -/
theorem StandAt.keep {Cs : Addr} {H0 H H' : Hp} {st a : Addr} {hs : List Nat} {vals : List V} {m : Int} (h : StandAt Cs H0 H st a hs vals m) (k : Same H H') : StandAt Cs H0 H' st a hs vals m := by
  obtain ⟨dx, com, li, lo, d, cu, go, la, n1, n2, n3, n4, n5, n6, h1, h2, h3, h4, h5, h6, h7, h8⟩ := h
  exact ⟨dx, com, li, lo, d, cu, go, la, n1, n2, n3, n4, n5, n6, k _ _ h1, k _ _ h2, k _ _ h3, k _ _ h4, h5.same k, k _ _ h6, k _ _ h7, k _ _ h8⟩
theorem RowAt.keep {C Cs : Addr} {c : Bool} {H H' : Hp} {r L a : Addr} {hs : List Nat} {vals : List V} (h : RowAt C Cs c H r L a hs vals) (k : Same H H') : RowAt C Cs c H' r L a hs vals := by
  obtain ⟨dx, sts, st, h1, h2, h3, h4⟩ := h
  exact ⟨dx, sts, st, k _ _ h1, k _ _ h2, h3, h4.keep k⟩
/-! ### the mathematics of one tick -/
section
variable {hs : List Nat} (T : Tab hs)
include T
theorem waits_more (n : Nat) : waits hs (n + 1) (n : Nat) = waits hs n (n : Nat) ++ [n] := by
  unfold waits
  rw [List.range_succ, List.filter_append, List.filter_cons_of_pos (p := fun (t : Nat) => decide (((n : Nat) : Int) ≤ out hs (t : Nat))) (decide_eq_true (by have := hold_nn T n; unfold out; omega)), List.filter_nil]
/-- the new key is none that stands -/
theorem key_new {p : Nat → Addr} {ts : List Nat} {n : Nat} (h : n ∉ ts) : valV (dueL hs p ts) (Sum.inl (out hs (n : Nat))) = none := by
  unfold valV dueL
  rw [List.find?_eq_none.mpr fun kv hkv => ?_]
  · rfl
  · obtain ⟨t, ht, rfl⟩ := List.mem_map.mp hkv
    intro e
    have e := of_decide_eq_true e
    have q := out_inj T (Sum.inl.inj e)
    exact h (by
      have : t = n := by omega
      rw [← this]
      exact ht)
theorem val_of {p : Nat → Addr} {ts : List Nat} {n : Nat} (h : n ∈ ts) : valV (dueL hs p ts) (Sum.inl (out hs (n : Nat))) = some (.ref (p n)) := by
  unfold valV dueL
  have q : ((ts.map fun (t : Nat) => ((Sum.inl (out hs (t : Nat)) : Key), V.ref (p t))).find? fun kv => decide (kv.1 = (Sum.inl (out hs (n : Nat)) : Key))) = some ((Sum.inl (out hs (n : Nat)) : Key), V.ref (p n)) := by
    rw [List.find?_map]
    have z : (ts.find? ((fun (kv : Key × V) => decide (kv.1 = (Sum.inl (out hs (n : Nat)) : Key))) ∘ fun (t : Nat) => ((Sum.inl (out hs (t : Nat)) : Key), V.ref (p t)))) = some n := by
      induction ts with
      | nil => cases h
      | cons t r ih =>
        rw [List.find?_cons]
        show (match decide ((Sum.inl (out hs (t : Nat)) : Key) = Sum.inl (out hs (n : Nat))) with | true => some t | false => _) = some n
        by_cases e : t = n
        · subst e
          rw [decide_eq_true rfl]
        · rw [decide_eq_false (show ¬ (Sum.inl (out hs (t : Nat)) : Key) = Sum.inl (out hs (n : Nat)) from fun z => by
            have q := out_inj T (Sum.inl.inj z)
            exact e (by omega))]
          exact ih ((List.mem_cons.mp h).resolve_left fun z => e z.symm)
    rw [z]
    rfl
  rw [q]
  rfl
theorem drop_of {p : Nat → Addr} {n : Nat} {u : Int} : dropK (dueL hs p (waits hs n u)) (Sum.inl u) = dueL hs p (waits hs n (u + 1)) := by
  unfold dropK dueL waits
  rw [List.filter_map, List.filter_filter]
  congr 1
  refine List.filter_congr fun t _ => ?_
  show (decide ((Sum.inl (out hs (t : Nat)) : Key) ≠ Sum.inl u) && decide (u ≤ out hs (t : Nat))) = decide (u + 1 ≤ out hs (t : Nat))
  by_cases h1 : out hs (t : Nat) = u
  · rw [decide_eq_false (show ¬ (Sum.inl (out hs (t : Nat)) : Key) ≠ Sum.inl u from fun z => z (by rw [h1])), decide_eq_false (show ¬ u + 1 ≤ out hs (t : Nat) by omega)]
    rfl
  · rw [decide_eq_true (show (Sum.inl (out hs (t : Nat)) : Key) ≠ Sum.inl u from fun z => h1 (Sum.inl.inj z))]
    by_cases h2 : u ≤ out hs (t : Nat)
    · rw [decide_eq_true h2, decide_eq_true (show u + 1 ≤ out hs (t : Nat) by omega)]
      rfl
    · rw [decide_eq_false h2, decide_eq_false (show ¬ u + 1 ≤ out hs (t : Nat) by omega)]
      rfl
/-- the thing that comes out is among those that wait, if it is none from ahead of tick 0 -/
theorem waits_thing {n : Nat} (h : 0 ≤ thing hs n) : (thing hs n).toNat ∈ waits hs (n + 1) (n : Nat) := by
  unfold waits
  have l := thing_le T (n : Nat)
  refine List.mem_filter.mpr ⟨List.mem_range.mpr (by omega), decide_eq_true ?_⟩
  rw [Int.toNat_of_nonneg h, out_thing T]
  exact Int.le_refl _
theorem waits_none {n : Nat} {p : Nat → Addr} (h : ¬ 0 ≤ thing hs n) : valV (dueL hs p (waits hs (n + 1) (n : Nat))) (Sum.inl (n : Nat)) = none := by
  unfold valV dueL
  rw [List.find?_eq_none.mpr fun kv hkv => ?_]
  · rfl
  · obtain ⟨t, ht, rfl⟩ := List.mem_map.mp hkv
    intro e
    have e := Sum.inl.inj (of_decide_eq_true e)
    have q := thing_uniq T e
    omega
/-- what is added as thing t comes out at tick n: those behind it, less those that still wait -/
theorem adds_waits {n : Nat} (h : 0 ≤ thing hs n) : (n : Int) - thing hs n - (((waits hs (n + 1) (n + 1 : Nat)).filter fun (t : Nat) => decide (thing hs n < (t : Nat))).length : Nat) = adds hs (thing hs n) := by
  have l := thing_le T (n : Nat)
  have o := out_thing T (n : Nat)
  generalize ht : (thing hs n).toNat = t
  have et : thing hs n = (t : Nat) := by omega
  rw [et] at o ⊢
  have hh : hold hs (t : Nat) = n - t := by unfold out at o; omega
  have e1 : (((waits hs (n + 1) (n + 1 : Nat)).filter fun (s : Nat) => decide (((t : Nat) : Int) < (s : Nat))).length : Int) = S (n + 1) (fun s => I ((decide (((t : Nat) : Int) < (s : Nat)) && decide (((n + 1 : Nat) : Int) ≤ out hs (s : Nat))) = true)) := by
    unfold waits
    rw [List.filter_filter]
    exact S_filter (fun s => decide (((t : Nat) : Int) < (s : Nat)) && decide (((n + 1 : Nat) : Int) ≤ out hs (s : Nat))) (n + 1)
  rw [e1]
  have e2 : n + 1 = (t + 1) + (n - t) := by omega
  rw [show S (n + 1) (fun s => I ((decide (((t : Nat) : Int) < (s : Nat)) && decide (((n + 1 : Nat) : Int) ≤ out hs (s : Nat))) = true)) = S ((t + 1) + (n - t)) (fun s => I ((decide (((t : Nat) : Int) < (s : Nat)) && decide (((n + 1 : Nat) : Int) ≤ out hs (s : Nat))) = true)) by rw [← e2]]
  rw [S_split, S_congr (t + 1) (g := fun _ => 0) (fun s hs' => I_neg (by simp; omega)), S_zero, Int.zero_add]
  have e3 : ((n : Nat) : Int) - (t : Nat) = S (n - t) (fun _ => 1) := by rw [S_const]; omega
  rw [e3, ← S_sub]
  unfold adds
  rw [hh, show (((n : Nat) : Int) - (t : Nat)).toNat = n - t by omega]
  refine S_congr _ fun k hk => ?_
  have ne : out hs (((t : Nat) : Int) + 1 + (k : Nat)) ≠ (n : Nat) := fun z => by
    have := out_inj T (z.trans o.symm)
    omega
  have ec : ((t + 1 + k : Nat) : Int) = (t : Nat) + 1 + (k : Nat) := by omega
  by_cases c : out hs (((t : Nat) : Int) + 1 + (k : Nat)) < out hs (t : Nat)
  · rw [I_pos c, I_neg (by
      rw [ec]
      simp only [Bool.and_eq_true, decide_eq_true_eq, not_and]
      intro _
      omega)]
    rfl
  · rw [I_neg c, I_pos (by
      rw [ec]
      simp only [Bool.and_eq_true, decide_eq_true_eq]
      omega)]
    rfl
theorem many_more (n : Nat) : manyOf hs (n + 1) = manyOf hs n + (if 0 ≤ thing hs n then adds hs (thing hs n) else 0) := rfl
omit T in
theorem outsOf_more {vals : List V} {v : V} (T : Tab hs) : outsOf hs (vals ++ [v]) = outsOf hs vals ++ [outV hs (vals ++ [v]) vals.length] := by
  unfold outsOf
  rw [List.length_append, List.length_singleton, List.range_succ, List.map_append]
  congr 1
  refine List.map_congr_left fun u hu => ?_
  have hu := List.mem_range.mp hu
  unfold outV
  have l := thing_le T (u : Nat)
  split
  · rw [List.getD_eq_getElem?_getD, List.getElem?_append_left (by omega), ← List.getD_eq_getElem?_getD]
  · rfl
end
end BA
set_option maxHeartbeats 4000000
namespace BA
open PySem PySem.Spec PyProof.Rows PyProof L2
/-! ### classes -/
structure StandC (K : PySem.W.Frag) (Cs : Addr) : Prop where
  cl : Cls K Cs
  own : NoAttr K Cs "own"
  begin : NoAttr K Cs "begin"
  coming : NoAttr K Cs "coming"
  ins : NoAttr K Cs "ins"
  outs : NoAttr K Cs "outs"
  due : NoAttr K Cs "due"
  cuts : NoAttr K Cs "cuts"
  gone : NoAttr K Cs "gone"
  many : NoAttr K Cs "many"
  later : NoAttr K Cs "later"
/-- carried over a new object; over a written one -/
theorem al {H : Hp} {p b : Addr} {o x : HO} (n : H p = none) (e : H b = some x) : upd H p o b = some x := same_upd n _ _ e
theorem wr {H : Hp} {p b : Addr} {o o' x : HO} (hp : H p = some o') (d : x ≠ o') (e : H b = some x) : upd H p o b = some x := by
  rw [upd_ne (ne_of e hp d)]
  exact e
theorem free_al {H : Hp} {p b : Addr} {o : HO} (e : upd H p o b = none) : H b = none := by
  unfold upd at e
  split at e
  · cases e
  · exact e
theorem ne_al {H : Hp} {p b : Addr} {o : HO} (e : upd H p o b = none) : b ≠ p := fun z => by rw [z, upd_same] at e; cases e
/-- the new stand's writes leave what was ahead of it -/
theorem same_wr {H0 H : Hp} {p : Addr} {o : HO} (n : H0 p = none) (s : Same H0 H) : Same H0 (upd H p o) := fun b x e => by
  rw [upd_ne (ne_of_none e n)]
  exact s _ _ e
/-- room for a few attributes -/
theorem pz : ([] : List (Str × V)).length ≤ 0 := Nat.le_refl _
theorem pn {f : Str} {v : V} {fs : List (Str × V)} {n : Nat} (h : fs.length ≤ n) : (putF f v fs).length ≤ n + 1 := Nat.le_trans (length_putF f v fs) (Nat.succ_le_succ h)
theorem pm {fs : List (Str × V)} {n : Nat} (h : fs.length ≤ n) (l : n < 1000 := by decide) : fs.length < 1000 := Nat.lt_of_le_of_lt h l
def spStandI (Cs : Addr) : Sp := fun vs H Q _ => ∃ (H0 : Hp) (p dx a : Addr) (hs : List Nat), vs = [.ref p, .ref a] ∧ Same H0 H ∧ H0 p = none ∧ H p = some (.ins Cs dx []) ∧ ∀ H', Same H0 H' → StandAt Cs H0 H' p a hs [] 0 → Q .non H'
def spCopied (Cs : Addr) : Sp := fun vs H Q _ => ∃ (st a : Addr) (hs : List Nat) (vals : List V) (m : Int), vs = [.ref st] ∧ StandAt Cs H00 H st a hs vals m ∧ vals.length ≤ 1000 ∧ ∀ H' p, Same H H' → StandAt Cs H H' p a hs vals m → Q (.ref p) H'
def spAhead (K : PySem.W.Frag) (Cs : Addr) : Sp := fun vs H Q _ => ∃ (st a : Addr) (hs : List Nat) (vals : List V) (m : Int), vs = [.ref st, .int 0] ∧ StandAt Cs H00 H st a hs vals m ∧ SqT K H a (tv hs) ∧ Tab hs ∧ Q (.int (hold hs (vals.length : Nat))) H
section
variable {P : Program} {w : World} {K : PySem.W.Frag} {mg : Str → Option Value} {base : Heap}
theorem scStandI : FnScope ["self", "own"] ["self", "own"] (defScope sStandI) := ⟨rfl, rfl, rfl, by decide +kernel, rfl, by decide +kernel, by decide +kernel⟩
theorem ok_standI {f Cs : Addr} {fd : FuncData} (F : Fun K "__init__" "Stand.__init__" sStandI f fd) (C : StandC K Cs) : FnOk P w K mg base CX0 1 f fd ["self", "own"] (spStandI Cs) := by
  refine F.ok scStandI (fun vs H Q E h => ?_) (fun cdv A outer s H vs Q E hr h => ?_)
  · obtain ⟨H0, p, dx, a, hs, rfl, _⟩ := h
    rfl
  · obtain ⟨H0, p, dx, a, hs, rfl, s0, n0, hp, q⟩ := h
    refine ⟨_, pss_cons (ps_asg (pe_tup (pa_cons (pv 1) (pa_cons pe_int (pa_cons (pe_tup pa_nil) pa_nil)))) (pg_tup rfl (pgs_cons (pg_fld (pv 0)) (pgs_cons (pg_fld (pv 0)) (pgs_cons (pg_fld (pv 0)) pgs_nil)))))
      (pss_cons (ps_asg (pe_tup (pa_cons (pe_lst pa_nil) (pa_cons (pe_lst pa_nil) (pa_cons pe_dnewK pa_nil)))) (pg_tup rfl (pgs_cons (pg_fld (pv 0)) (pgs_cons (pg_fld (pv 0)) (pgs_cons (pg_fld (pv 0)) pgs_nil)))))
      (pss_one (ps_asg (pe_tup (pa_cons (pe_tup pa_nil) (pa_cons (pe_tup pa_nil) (pa_cons pe_int (pa_cons pe_dnewK pa_nil))))) (pg_tup rfl (pgs_cons (pg_fld (pv 0)) (pgs_cons (pg_fld (pv 0)) (pgs_cons (pg_fld (pv 0)) (pgs_cons (pg_fld (pv 0)) pgs_nil)))))))), ?_⟩
    have sz : ∀ n, n ≤ 4 → n ≤ sizeLine := fun n h => by rw [sizeLine_eq]; omega
    -- own, begin, coming
    refine ⟨_, rfl, sz _ (Nat.le_of_ble_eq_true rfl), fun com nc => ⟨sz _ (Nat.le_of_ble_eq_true rfl), fun t1 nt1 => ?_⟩⟩
    have e1 := al nt1 (o := .tup [.ref a, .int 0, .ref com]) (al nc (o := .tup []) hp)
    have c1 := al nt1 (o := .tup [.ref a, .int 0, .ref com]) (upd_same (H := H) (a := com) (o := .tup []))
    have s1 := (s0.trans (same_upd nc (o := .tup []))).trans (same_upd nt1 (o := .tup [.ref a, .int 0, .ref com]))
    refine ⟨t1, _, rfl, SqT.of upd_same, rfl, _, _, rfl, _, rfl, p, Cs, dx, _, rfl, e1, C.cl, C.own, pm pz, ?_⟩
    generalize hG : upd (upd (upd H com (.tup [])) t1 (.tup [.ref a, .int 0, .ref com])) p (.ins Cs dx (putF "own" (.ref a) [])) = G1
    have d1 : ∀ {xs : List V}, (HO.tup xs) ≠ .ins Cs dx [] := fun z => by cases z
    have c2 : G1 com = some (.tup []) := by rw [← hG]; exact wr e1 (by intro z; cases z) c1
    have s2 : Same H0 G1 := by rw [← hG]; exact same_wr n0 s1
    have e2 : G1 p = some (.ins Cs dx (putF "own" (.ref a) [])) := by rw [← hG]; exact upd_same
    refine ⟨_, _, rfl, _, rfl, p, Cs, dx, _, rfl, e2, C.cl, C.begin, pm (pn pz), _, _, rfl, _, rfl, p, Cs, dx, _, rfl, upd_same, C.cl, C.coming, pm (pn (pn pz)), rfl, ?_⟩
    generalize hG2 : upd (upd G1 p (.ins Cs dx (putF "begin" (.int 0) (putF "own" (.ref a) [])))) p (.ins Cs dx (putF "coming" (.ref com) (putF "begin" (.int 0) (putF "own" (.ref a) [])))) = G2
    have c3 : G2 com = some (.tup []) := by rw [← hG2, upd_upd]; exact wr e2 (by intro z; cases z) c2
    have s3 : Same H0 G2 := by rw [← hG2, upd_upd]; exact same_wr n0 s2
    have e3 : G2 p = some (.ins Cs dx (putF "coming" (.ref com) (putF "begin" (.int 0) (putF "own" (.ref a) [])))) := by rw [← hG2]; exact upd_same
    -- ins, outs, due
    refine ⟨sz _ (Nat.le_of_ble_eq_true rfl), fun li nli => ⟨sz _ (Nat.le_of_ble_eq_true rfl), fun lo nlo d nd => ⟨sz _ (Nat.le_of_ble_eq_true rfl), fun t2 nt2 => ?_⟩⟩⟩
    have nli0 : H0 li = none := s3.free nli
    have nlo0 : H0 lo = none := s3.free (free_al nlo)
    have nd0 : H0 d = none := s3.free (free_al (free_al nd))
    have lilo : li ≠ lo := (ne_al nlo).symm
    generalize hG3 : upd (upd (upd (upd G2 li (.lst [])) lo (.lst [])) d (.dK [])) t2 (.tup [.ref li, .ref lo, .ref d]) = G3
    have c4 : G3 com = some (.tup []) := by rw [← hG3]; exact al nt2 (al nd (al nlo (al nli c3)))
    have e4 : G3 p = some (.ins Cs dx (putF "coming" (.ref com) (putF "begin" (.int 0) (putF "own" (.ref a) [])))) := by rw [← hG3]; exact al nt2 (al nd (al nlo (al nli e3)))
    have i4 : G3 li = some (.lst []) := by rw [← hG3]; exact al nt2 (al nd (al nlo upd_same))
    have o4 : G3 lo = some (.lst []) := by rw [← hG3]; exact al nt2 (al nd upd_same)
    have k4 : G3 d = some (.dK []) := by rw [← hG3]; exact al nt2 upd_same
    have u4 : G3 t2 = some (.tup [.ref li, .ref lo, .ref d]) := by rw [← hG3]; exact upd_same
    have s4 : Same H0 G3 := by
      rw [← hG3]
      exact (((s3.trans (same_upd nli)).trans (same_upd nlo)).trans (same_upd nd)).trans (same_upd nt2)
    refine ⟨t2, _, rfl, SqT.of u4, rfl, _, _, rfl, _, rfl, p, Cs, dx, _, rfl, e4, C.cl, C.ins, pm (pn (pn (pn pz))), _, _, rfl, _, rfl, p, Cs, dx, _, rfl, upd_same, C.cl, C.outs, pm (pn (pn (pn (pn pz)))), _, _, rfl, _, rfl, p, Cs, dx, _, rfl, upd_same, C.cl, C.due, pm (pn (pn (pn (pn (pn pz))))), rfl, ?_⟩
    rw [upd_upd, upd_upd]
    generalize hfs : putF "due" (V.ref d) (putF "outs" (V.ref lo) (putF "ins" (V.ref li) (putF "coming" (.ref com) (putF "begin" (.int 0) (putF "own" (.ref a) []))))) = fs3
    have lf3 : fs3.length ≤ 6 := by rw [← hfs]; exact pn (pn (pn (pn (pn (pn pz)))))
    generalize hG4 : upd G3 p (.ins Cs dx fs3) = G4
    have c5 : G4 com = some (.tup []) := by rw [← hG4]; exact wr e4 (by intro z; cases z) c4
    have i5 : G4 li = some (.lst []) := by rw [← hG4]; exact wr e4 (by intro z; cases z) i4
    have o5 : G4 lo = some (.lst []) := by rw [← hG4]; exact wr e4 (by intro z; cases z) o4
    have k5 : G4 d = some (.dK []) := by rw [← hG4]; exact wr e4 (by intro z; cases z) k4
    have e5 : G4 p = some (.ins Cs dx fs3) := by rw [← hG4]; exact upd_same
    have s5 : Same H0 G4 := by rw [← hG4]; exact same_wr n0 s4
    -- cuts, gone, many, later
    refine ⟨sz _ (Nat.le_of_ble_eq_true rfl), fun cu ncu => ⟨sz _ (Nat.le_of_ble_eq_true rfl), fun go ngo la nla => ⟨sz _ (Nat.le_of_ble_eq_true rfl), fun t3 nt3 => ?_⟩⟩⟩
    generalize hG5 : upd (upd (upd (upd G4 cu (.tup [])) go (.tup [])) la (.dK [])) t3 (.tup [.ref cu, .ref go, .int 0, .ref la]) = G5
    have dla : d ≠ la := ne_of_none (al ngo (al ncu k5)) nla
    have c6 : G5 com = some (.tup []) := by rw [← hG5]; exact al nt3 (al nla (al ngo (al ncu c5)))
    have i6 : G5 li = some (.lst []) := by rw [← hG5]; exact al nt3 (al nla (al ngo (al ncu i5)))
    have o6 : G5 lo = some (.lst []) := by rw [← hG5]; exact al nt3 (al nla (al ngo (al ncu o5)))
    have k6 : G5 d = some (.dK []) := by rw [← hG5]; exact al nt3 (al nla (al ngo (al ncu k5)))
    have e6 : G5 p = some (.ins Cs dx fs3) := by rw [← hG5]; exact al nt3 (al nla (al ngo (al ncu e5)))
    have x6 : G5 cu = some (.tup []) := by rw [← hG5]; exact al nt3 (al nla (al ngo upd_same))
    have y6 : G5 go = some (.tup []) := by rw [← hG5]; exact al nt3 (al nla upd_same)
    have z6 : G5 la = some (.dK []) := by rw [← hG5]; exact al nt3 upd_same
    have u6 : G5 t3 = some (.tup [.ref cu, .ref go, .int 0, .ref la]) := by rw [← hG5]; exact upd_same
    have s6 : Same H0 G5 := by
      rw [← hG5]
      exact (((s5.trans (same_upd ncu)).trans (same_upd ngo)).trans (same_upd nla)).trans (same_upd nt3)
    refine ⟨t3, _, rfl, SqT.of u6, rfl, _, _, rfl, _, rfl, p, Cs, dx, _, rfl, e6, C.cl, C.cuts, pm lf3, _, _, rfl, _, rfl, p, Cs, dx, _, rfl, upd_same, C.cl, C.gone, pm (pn lf3), _, _, rfl, _, rfl, p, Cs, dx, _, rfl, upd_same, C.cl, C.many, pm (pn (pn lf3)), _, _, rfl, _, rfl, p, Cs, dx, _, rfl, upd_same, C.cl, C.later, pm (pn (pn (pn lf3))), rfl, ?_⟩
    · rw [upd_upd, upd_upd, upd_upd, ← hfs, sf_made]
      refine q _ (same_wr n0 s6) ⟨dx, com, li, lo, d, cu, go, la, n0, nli0, nlo0, nd0, lilo, dla, upd_same, wr e6 (by intro z; cases z) c6, wr e6 (by intro z; cases z) i6, wr e6 (by intro z; cases z) o6, ⟨fun _ => 0, wr e6 (by intro z; cases z) k6, fun t ht => nomatch ht⟩,
        wr e6 (by intro z; cases z) x6, wr e6 (by intro z; cases z) y6, wr e6 (by intro z; cases z) z6⟩
theorem scAhead : FnScope ["stood", "far"] ["stood", "far"] (defScope sHoldAhead) := ⟨rfl, rfl, rfl, by decide +kernel, rfl, by decide +kernel, by decide +kernel⟩
theorem ok_holdAhead {Cs : Addr} (D : Df K mg "hold_ahead" sHoldAhead ["stood", "far"]) (B : Bl mg) (C : StandC K Cs) : Pr P w K mg base "hold_ahead" sHoldAhead ["stood", "far"] 1 (spAhead K Cs) := by
  refine D.ok scAhead (fun vs H Q E h => ?_) (fun f cdv A outer s H vs Q E hr h => ?_)
  · obtain ⟨st, a, hs, vals, m, rfl, _⟩ := h
    rfl
  · obtain ⟨st, a, hs, vals, m, rfl, ⟨dx, com, li, lo, d, cu, go, la, _, _, _, _, _, _, h1, h2, h3, _⟩, hT, T, q⟩ := h
    refine ⟨_, pss_cons (ps_if (pt_cmpR op_lt (pv 1) (pe_callB call_len_seq rfl B.len PySem.boot_len (pa_cons (pe_fld (pv 0) rfl) pa_nil)) (nomark _)) pss_never pss_nil)
      (pss_one (ps_ret (pe_ix ix_tup (pe_fld (pv 0) rfl) (pe_op op_mod (pe_op op_sub (pe_op op_add (pe_callB call_len_seq rfl B.len PySem.boot_len (pa_cons (pe_fld (pv 0) rfl) pa_nil)) (pv 1)) (pe_fld (pv 0) rfl))
        (pe_callB call_len_seq rfl B.len PySem.boot_len (pa_cons (pe_fld (pv 0) rfl) pa_nil))) (fun _ _ => rfl)))), ?_⟩
    refine ⟨_, rfl, _, rfl, st, Cs, dx, _, _, rfl, h1, C.cl, C.coming, sf_coming, com, _, rfl, .inr (SqT.of h2), _, _, rfl, rfl, _, rfl, iteF ?_⟩
    refine ⟨_, rfl, st, Cs, dx, _, _, rfl, h1, C.cl, C.own, sf_own, _, rfl, st, Cs, dx, _, _, rfl, h1, C.cl, C.ins, sf_ins, li, _, rfl, .inl (SqL.of h3), _, rfl, _, _, rfl, rfl, ?_⟩
    refine ⟨_, rfl, st, Cs, dx, _, _, rfl, h1, C.cl, C.begin, sf_begin, _, _, rfl, rfl, _, rfl, st, Cs, dx, _, _, rfl, h1, C.cl, C.own, sf_own, a, _, rfl, .inr hT, _, _, rfl, rfl, (by show (0 : Int) < ((tv hs).length : Nat); rw [tv_len]; have := T.pos; omega), ?_⟩
    have e : ((vals.length : Nat) : Int) + 0 - 0 = (vals.length : Nat) := by omega
    refine ⟨a, _, _, _, rfl, rfl, hT, ?_, q⟩
    rw [e]
    exact tv_at T _
end
end BA
set_option maxHeartbeats 4000000
namespace BA
open PySem PySem.Spec PyProof.Rows PyProof L2
theorem sf_len {v0 v1 v2 v3 v4 v5 v6 v7 v8 v9 : V} : (sf v0 v1 v2 v3 v4 v5 v6 v7 v8 v9).length ≤ 10 := Nat.le_refl _
section
variable {P : Program} {w : World} {K : PySem.W.Frag} {mg : Str → Option Value} {base : Heap}
theorem scCopied : FnScope ["stood", "found"] ["stood"] (defScope sCopied) := ⟨rfl, rfl, rfl, by decide +kernel, rfl, by decide +kernel, by decide +kernel⟩
theorem ok_copied {Cs fI : Addr} {fdI : FuncData} (D : Df K mg "copied" sCopied ["stood"]) (B : Bl mg) (C : StandC K Cs) (FI : Fun K "__init__" "Stand.__init__" sStandI fI fdI) (M : Mk K Cs fI) (mgS : mg "Stand" = some (.ref Cs)) (bI : Binds K fdI ["self", "own"] []) :
    Pr P w K mg base "copied" sCopied ["stood"] 3 (spCopied Cs) := by
  refine D.ok scCopied (fun vs H Q E h => ?_) (fun f cdv A outer s H vs Q E hr h => ?_)
  · obtain ⟨st, a, hs, vals, m, rfl, _⟩ := h
    rfl
  · obtain ⟨st, a, hs, vals, m, rfl, ⟨dx, com, li, lo, d, cu, go, la, _, _, _, _, _, _, h1, h2, h3, h4, h5, h6, h7, h8⟩, hL, q⟩ := h
    have sz : ∀ n, n ≤ 4 → n ≤ sizeLine := fun n h => by rw [sizeLine_eq]; omega
    refine ⟨_, pss_cons (ps_set (i := 1) scCopied.nd rfl (.inl rfl) (pe_make M (ok_standI FI C) hr (by rfl) mgS bI .nil pass0 (pa_cons (pe_fld (pv 0) rfl) pa_nil)))
      (pss_cons (ps_asg (pe_tup (pa_cons (pe_fld (pv 0) rfl) (pa_cons (pe_fld (pv 0) rfl) pa_nil))) (pg_tup rfl (pgs_cons (pg_fld (pv 1)) (pgs_cons (pg_fld (pv 1)) pgs_nil))))
      (pss_cons (ps_asg (pe_tup (pa_cons (pe_callTy call_list_of (by rfl) B.list (by decide +kernel) (pa_cons (pe_fld (pv 0) rfl) pa_nil)) (pa_cons (pe_callTy call_list_of (by rfl) B.list (by decide +kernel) (pa_cons (pe_fld (pv 0) rfl) pa_nil)) (pa_cons (pe_callTy call_dictD (by rfl) B.dict (by decide +kernel) (pa_cons (pe_fld (pv 0) rfl) pa_nil)) pa_nil))))
          (pg_tup rfl (pgs_cons (pg_fld (pv 1)) (pgs_cons (pg_fld (pv 1)) (pgs_cons (pg_fld (pv 1)) pgs_nil)))))
      (pss_cons (ps_asg (pe_tup (pa_cons (pe_fld (pv 0) rfl) (pa_cons (pe_fld (pv 0) rfl) (pa_cons (pe_fld (pv 0) rfl) (pa_cons (pe_callTy call_dictD (by rfl) B.dict (by decide +kernel) (pa_cons (pe_fld (pv 0) rfl) pa_nil)) pa_nil)))))
          (pg_tup rfl (pgs_cons (pg_fld (pv 1)) (pgs_cons (pg_fld (pv 1)) (pgs_cons (pg_fld (pv 1)) (pgs_cons (pg_fld (pv 1)) pgs_nil))))))
      (pss_one (ps_ret (pv 1)))))), ?_⟩
    refine ⟨_, rfl, st, Cs, dx, _, _, rfl, h1, C.cl, C.own, sf_own, fun p dxp np ndxp ne => ⟨H, p, dxp, a, hs, rfl, (same_upd ndxp).trans (same_upd (by rw [upd_ne ne.symm]; exact np)), np, upd_same, fun H1 s1 A1 => ⟨rfl, ?_⟩⟩⟩
    obtain ⟨dx1, com1, li1, lo1, d1, cu1, go1, la1, _, _, _, _, _, _, e1, _⟩ := A1
    refine ⟨_, rfl, st, Cs, dx, _, _, rfl, s1 _ _ h1, C.cl, C.begin, sf_begin, _, rfl, st, Cs, dx, _, _, rfl, s1 _ _ h1, C.cl, C.coming, sf_coming, sz _ (Nat.le_of_ble_eq_true rfl), fun t1 nt1 => ?_⟩
    refine ⟨t1, _, rfl, SqT.of upd_same, rfl, _, _, rfl, _, rfl, p, Cs, dx1, _, rfl, al nt1 e1, C.cl, C.begin, pm sf_len, _, _, rfl, _, rfl, p, Cs, dx1, _, rfl, upd_same, C.cl, C.coming, pm (pn sf_len), rfl, ?_⟩
    rw [upd_upd, put_begin, put_coming]
    have s2 : Same H (upd (upd H1 t1 (.tup [.int 0, .ref com])) p (.ins Cs dx1 (sf (.ref a) (.int 0) (.ref com) (.ref li1) (.ref lo1) (.ref d1) (.ref cu1) (.ref go1) (.int 0) (.ref la1)))) := same_wr np (s1.trans (same_upd nt1))
    have e2 := upd_same (H := upd H1 t1 (.tup [.int 0, .ref com])) (a := p) (o := .ins Cs dx1 (sf (.ref a) (.int 0) (.ref com) (.ref li1) (.ref lo1) (.ref d1) (.ref cu1) (.ref go1) (.int 0) (.ref la1)))
    generalize upd (upd H1 t1 (.tup [.int 0, .ref com])) p (.ins Cs dx1 (sf (.ref a) (.int 0) (.ref com) (.ref li1) (.ref lo1) (.ref d1) (.ref cu1) (.ref go1) (.int 0) (.ref la1))) = G2 at s2 e2 ⊢
    have sp := s2
    refine ⟨_, rfl, st, Cs, dx, _, _, rfl, s2 _ _ h1, C.cl, C.ins, sf_ins, li, _, rfl, .inl (SqL.of (s2 _ _ h3)), fun nl nnl => ?_⟩
    refine ⟨_, rfl, st, Cs, dx, _, _, rfl, al nnl (s2 _ _ h1), C.cl, C.outs, sf_outs, lo, _, rfl, .inl (SqL.of (al nnl (s2 _ _ h4))), fun no nno => ?_⟩
    obtain ⟨pp, hd, hp⟩ := h5
    refine ⟨_, rfl, st, Cs, dx, _, _, rfl, al nno (al nnl (s2 _ _ h1)), C.cl, C.due, sf_due, d, _, rfl, .inl (al nno (al nnl (s2 _ _ hd))), fun nd nnd => ⟨sz _ (Nat.le_of_ble_eq_true rfl), fun t2 nt2 => ?_⟩⟩
    have fl : H nl = none := s2.free nnl
    have fo : H no = none := s2.free (free_al nno)
    have fd : H nd = none := s2.free (free_al (free_al nnd))
    have lilo : nl ≠ no := (ne_al nno).symm
    have i3 := al nt2 (o := .tup [.ref nl, .ref no, .ref nd]) (al nnd (o := .dK (dueL hs pp (waits hs vals.length (vals.length : Nat)))) (al nno (o := .lst (outsOf hs vals)) (upd_same (H := G2) (a := nl) (o := .lst vals))))
    have o3 := al nt2 (o := .tup [.ref nl, .ref no, .ref nd]) (al nnd (o := .dK (dueL hs pp (waits hs vals.length (vals.length : Nat)))) (upd_same (H := upd G2 nl (.lst vals)) (a := no) (o := .lst (outsOf hs vals))))
    have k3 := al nt2 (o := .tup [.ref nl, .ref no, .ref nd]) (upd_same (H := upd (upd G2 nl (.lst vals)) no (.lst (outsOf hs vals))) (a := nd) (o := .dK (dueL hs pp (waits hs vals.length (vals.length : Nat)))))
    have u3 := upd_same (H := upd (upd (upd G2 nl (.lst vals)) no (.lst (outsOf hs vals))) nd (.dK (dueL hs pp (waits hs vals.length (vals.length : Nat))))) (a := t2) (o := .tup [.ref nl, .ref no, .ref nd])
    have e3 := al nt2 (o := .tup [.ref nl, .ref no, .ref nd]) (al nnd (o := .dK (dueL hs pp (waits hs vals.length (vals.length : Nat)))) (al nno (o := .lst (outsOf hs vals)) (al nnl (o := .lst vals) e2)))
    have s3 := (((s2.trans (same_upd nnl (o := .lst vals))).trans (same_upd nno (o := .lst (outsOf hs vals)))).trans (same_upd nnd (o := .dK (dueL hs pp (waits hs vals.length (vals.length : Nat)))))).trans (same_upd nt2 (o := .tup [.ref nl, .ref no, .ref nd]))
    generalize hG3 : upd (upd (upd (upd G2 nl (.lst vals)) no (.lst (outsOf hs vals))) nd (.dK (dueL hs pp (waits hs vals.length (vals.length : Nat))))) t2 (.tup [.ref nl, .ref no, .ref nd]) = G3 at i3 o3 k3 u3 e3 s3
    clear hG3
    refine ⟨t2, _, rfl, SqT.of u3, rfl, _, _, rfl, _, rfl, p, Cs, dx1, _, rfl, e3, C.cl, C.ins, pm sf_len, _, _, rfl, _, rfl, p, Cs, dx1, _, rfl, upd_same, C.cl, C.outs, pm (pn sf_len), _, _, rfl, _, rfl, p, Cs, dx1, _, rfl, upd_same, C.cl, C.due, pm (pn (pn sf_len)), rfl, ?_⟩
    rw [upd_upd, upd_upd, put_ins, put_outs, put_due]
    have i4 := wr e3 (o := .ins Cs dx1 (sf (.ref a) (.int 0) (.ref com) (.ref nl) (.ref no) (.ref nd) (.ref cu1) (.ref go1) (.int 0) (.ref la1))) (by intro z; cases z) i3
    have o4 := wr e3 (o := .ins Cs dx1 (sf (.ref a) (.int 0) (.ref com) (.ref nl) (.ref no) (.ref nd) (.ref cu1) (.ref go1) (.int 0) (.ref la1))) (by intro z; cases z) o3
    have k4 := wr e3 (o := .ins Cs dx1 (sf (.ref a) (.int 0) (.ref com) (.ref nl) (.ref no) (.ref nd) (.ref cu1) (.ref go1) (.int 0) (.ref la1))) (by intro z; cases z) k3
    have s4 := same_wr np (o := .ins Cs dx1 (sf (.ref a) (.int 0) (.ref com) (.ref nl) (.ref no) (.ref nd) (.ref cu1) (.ref go1) (.int 0) (.ref la1))) s3
    have e4 := upd_same (H := G3) (a := p) (o := .ins Cs dx1 (sf (.ref a) (.int 0) (.ref com) (.ref nl) (.ref no) (.ref nd) (.ref cu1) (.ref go1) (.int 0) (.ref la1)))
    generalize upd G3 p (.ins Cs dx1 (sf (.ref a) (.int 0) (.ref com) (.ref nl) (.ref no) (.ref nd) (.ref cu1) (.ref go1) (.int 0) (.ref la1))) = G4 at i4 o4 k4 s4 e4 ⊢
    refine ⟨_, rfl, st, Cs, dx, _, _, rfl, s4 _ _ h1, C.cl, C.cuts, sf_cuts, _, rfl, st, Cs, dx, _, _, rfl, s4 _ _ h1, C.cl, C.gone, sf_gone, _, rfl, st, Cs, dx, _, _, rfl, s4 _ _ h1, C.cl, C.many, sf_many, _, rfl, st, Cs, dx, _, _, rfl, s4 _ _ h1, C.cl, C.later, sf_later, la, _, rfl, .inl (s4 _ _ h8), fun nla nnla => ⟨sz _ (Nat.le_of_ble_eq_true rfl), fun t3 nt3 => ?_⟩⟩
    have dla : nd ≠ nla := ne_of_none k4 nnla
    have i5 := al nt3 (o := .tup [.ref cu, .ref go, .int m, .ref nla]) (al nnla (o := .dK []) i4)
    have o5 := al nt3 (o := .tup [.ref cu, .ref go, .int m, .ref nla]) (al nnla (o := .dK []) o4)
    have k5 := al nt3 (o := .tup [.ref cu, .ref go, .int m, .ref nla]) (al nnla (o := .dK []) k4)
    have e5 := al nt3 (o := .tup [.ref cu, .ref go, .int m, .ref nla]) (al nnla (o := .dK []) e4)
    have l5 := al nt3 (o := .tup [.ref cu, .ref go, .int m, .ref nla]) (upd_same (H := G4) (a := nla) (o := .dK []))
    have s5 := (s4.trans (same_upd nnla (o := .dK []))).trans (same_upd nt3 (o := .tup [.ref cu, .ref go, .int m, .ref nla]))
    refine ⟨t3, _, rfl, SqT.of upd_same, rfl, _, _, rfl, _, rfl, p, Cs, dx1, _, rfl, e5, C.cl, C.cuts, pm sf_len, _, _, rfl, _, rfl, p, Cs, dx1, _, rfl, upd_same, C.cl, C.gone, pm (pn sf_len), _, _, rfl, _, rfl, p, Cs, dx1, _, rfl, upd_same, C.cl, C.many, pm (pn (pn sf_len)), _, _, rfl, _, rfl, p, Cs, dx1, _, rfl, upd_same, C.cl, C.later, pm (pn (pn (pn sf_len))), rfl, ?_⟩
    rw [upd_upd, upd_upd, upd_upd, put_cuts, put_gone, put_many, put_later]
    have sE := same_wr np (o := .ins Cs dx1 (sf (.ref a) (.int 0) (.ref com) (.ref nl) (.ref no) (.ref nd) (.ref cu) (.ref go) (.int m) (.ref nla))) s5
    refine ⟨_, rfl, q _ _ sE ⟨dx1, com, nl, no, nd, cu, go, nla, np, fl, fo, fd, lilo, dla, upd_same, sE _ _ h2, wr e5 (by intro z; cases z) i5, wr e5 (by intro z; cases z) o5, ⟨pp, wr e5 (by intro z; cases z) k5, fun t ht => sE _ _ (hp t ht)⟩, sE _ _ h6, sE _ _ h7, wr e5 (by intro z; cases z) l5⟩⟩
end
end BA
set_option maxHeartbeats 4000000
namespace BA
open PySem PySem.Spec PyProof.Rows PyProof L2
/-- what put_out answers for row r of class C: what is found, and the stand's own count in a row that counts -/
def spPut (C Cs : Addr) (c : Bool) : Sp := fun vs H Q _ => ∃ (r dr : Addr) (fsr : List (Str × V)) (st dx : Addr) (v0 v1 v2 v3 v4 : V) (d cu : Addr) (v7 : V) (m : Int) (v9 : V) (n : Int) (fv : V),
  vs = [.ref r, .ref st, .int n, fv] ∧ H r = some (.ins C dr fsr) ∧ H st = some (.ins Cs dx (sf v0 v1 v2 v3 v4 (.ref d) (.ref cu) v7 (.int m) v9)) ∧ H cu = some (.tup []) ∧ r ≠ st ∧
  ((fv = .non ∧ ∀ H', Same H H' → Q .non H') ∨
   ∃ (ft : Addr) (t : Int) (x : V) (ts : List Nat) (g : Nat → Int) (p : Nat → Addr) (ys : Nat → V), fv = .ref ft ∧ H ft = some (.tup [.int t, x]) ∧ H d = some (.dK (ts.map fun (s : Nat) => ((Sum.inl (g s) : Key), V.ref (p s)))) ∧ ts.length ≤ 2000 ∧ (∀ s, s ∈ ts → H (p s) = some (.tup [.int (s : Nat), ys s])) ∧
     ∀ H', SameBut st H H' → H' st = some (.ins Cs dx (sf v0 v1 v2 v3 v4 (.ref d) (.ref cu) v7 (.int (if c = true then m + n - t - ((ts.filter fun (s : Nat) => decide (t < (s : Nat))).length : Nat) else m)) v9)) → Q x H')
theorem spPut_len {C Cs : Addr} {c : Bool} : ∀ vs H Q E, spPut C Cs c vs H Q E → vs.length = 4 := by
  intro vs H Q E h
  obtain ⟨r, dr, fsr, st, dx, v0, v1, v2, v3, v4, d, cu, v7, m, v9, n, fv, rfl, _⟩ := h
  rfl
/-- a def of the class with super in it: what the written part says of it -/
structure SupD (P : Program) (K : PySem.W.Frag) (qual : Str) (st : Stmt) (m : Str) (f C f2 : Addr) : Prop where
  ex : ∃ (oc : Value) (od : Option Addr) (osl : Array (Option Value)) (kV doc pm ct : Value) (an : Option Addr) (cda cc D : Addr) (ccl cl : Value) (cdd cld : Option Addr) (vs : Array Value) (ccs csl : Array (Option Value)) (file : Str) (tf : Tok) (cdD : ClassData),
    K.lookup f = some ⟨oc, od, .func (PySem.W.ksFn m qual (defArgs st) (defBody st) (defScope st) .none kV doc pm an (.ref cda) ct cc), osl⟩ ∧ PySem.W.codeIn K (.ref cda) qual = true ∧
    K.lookup cda = some ⟨ccl, cdd, .fields vs, ccs⟩ ∧ vs[2]? = some (.str file tf) ∧ ((P.main.file : Str) == file) = true ∧ (P.main.scope.names.lookup ("super" : Str)).isSome = false ∧
    K.lookup cc = some ⟨cl, cld, .cell (some (.ref D)), csl⟩ ∧ PySem.W.clsIn K D = some cdD ∧ PySem.W.mroIn K C (.ref D) = some true ∧ PySem.W.nsIn K cStatics "thirdparty.any" = some none ∧
    PySem.W.ks_superIn K C D m = some (some (.ref f2)) ∧ PySem.W.typeIn K (.ref f2) = some (.type "function") ∧ PySem.W.fnIn K f2 = true
section
variable {P : Program} {w : World} {K : PySem.W.Frag} {mg : Str → Option Value} {base : Heap}
theorem scPutR : FnScope ["self", "stood", "now", "found"] ["self", "stood", "now", "found"] (defScope sPutR) := ⟨rfl, rfl, rfl, by decide +kernel, rfl, by decide +kernel, by decide +kernel⟩
theorem ok_putR {f C Cs : Addr} {fd : FuncData} (F : Fun K "put_out" "Row.put_out" sPutR f fd) (b : Binds K fd ["self", "stood", "now", "found"] []) : FnR P w K mg base CX0 1 f (spPut C Cs false) := by
  have z : FnOk P w K mg base CX0 1 f fd ["self", "stood", "now", "found"] (spPut C Cs false) := by
    refine F.ok scPutR spPut_len (fun cdv A outer s H vs Q E hr h => ?_)
    obtain ⟨r, dr, fsr, st, dx, v0, v1, v2, v3, v4, d, cu, v7, m, v9, n, fv, rfl, hr', hst, hcu, hne, q⟩ := h
    refine ⟨_, pss_one (ps_ret (pe_ifExp (pt_cmpR op_isN (pv 3) pe_non (nomark _)) pe_non (pe_ix ix_tup (pv 3) pe_int (fun _ _ => rfl)))), ?_⟩
    rcases q with ⟨rfl, q⟩ | ⟨ft, t, x, ts, g, p, ys, rfl, hf, hd, _, _, q⟩
    · exact ⟨_, rfl, rfl, _, rfl, iteT (q _ (fun _ _ e => e))⟩
    · exact ⟨_, rfl, rfl, _, rfl, iteF ⟨_, rfl, ft, _, _, _, rfl, rfl, SqT.of hf, rfl, q _ (fun _ _ _ e => e) hst⟩⟩
  have z2 := z.raw b .nil
  intro A outer s H us vs Q E hr e0 r h
  exact z2 A outer s H us vs Q E hr e0 r (by show spPut C Cs false (vs ++ []) H Q E; rw [List.append_nil]; exact h)
theorem scPutL : SupScope ["self", "stood", "now", "found"] ["self", "stood", "now", "found"] (defScope sPutL) :=
  ⟨rfl, rfl, rfl, by decide +kernel, rfl, by decide +kernel, by decide +kernel, by decide +kernel, by decide +kernel, by decide +kernel, rfl, by decide +kernel, by decide +kernel⟩
theorem ok_putL {f C Cs f2 : Addr} {k : Nat} (D : SupD P K "Losing.put_out" sPutL "put_out" f C f2) (B : Bl mg) (CC : Cls K C) (S : StandC K Cs) (F2 : FnR P w K mg base CX0 k f2 (spPut C Cs false)) : FnR P w K mg base CX0 (k + 1) f (spPut C Cs false) := by
  obtain ⟨oc, od, osl, kV, doc, pm, ct, an, cda, cc, Dd, ccl, cl, cdd, cld, vs, ccs, csl, file, tf, cdD, lk, hcd, hcode, hvs, hfile, htop, hcell, hD, hmro, hany, hsup, hty, hfn⟩ := D.ex
  refine fn_super lk hcd scPutL ⟨_, rfl, rfl⟩ (fun us h => ?_) hcode hvs hfile htop hcell hD hmro hany hsup hty hfn rfl B.super (by decide +kernel) spPut_len F2 (fun _ _ => rfl) (fun _ => rfl) (fun _ => rfl) (fun cells A outer s H vs Q E hr h => ?_)
  · match us, h with
    | [_, _, _, _], _ => rfl
  · obtain ⟨r, dr, fsr, st, dx, v0, v1, v2, v3, v4, d, cu, v7, m, v9, n, fv, rfl, hr', hst, hcu, hne, q⟩ := h
    refine ⟨_, _, ps_if (PW.pt (pw_and (pt_cmpR op_notN (pv 3) pe_non (nomark _)) (pw_and1 (pt_cmpR op_in_seq (pv 2) (pe_fld (pv 1) rfl) rfl)))) pss_never pss_nil, pa_cons (pv 1) (pa_cons (pv 2) (pa_cons (pv 3) pa_nil)), ?_⟩
    rcases q with ⟨rfl, q⟩ | ⟨ft, t, x, ts, g, p, ys, rfl, hf, hd, hl, hp, q⟩
    · refine ⟨_, rfl, rfl, _, rfl, iteF (iteF ⟨r, dr, fsr, rfl, hr', CC, fun y hy => ⟨_, rfl, _, rfl, _, rfl, upd_same, ?_⟩⟩)⟩
      exact ⟨r, dr, fsr, st, dx, v0, v1, v2, v3, v4, d, cu, v7, m, v9, n, .non, rfl, al hy hr', al hy hst, al hy hcu, hne, .inl ⟨rfl, fun H' s' => q H' ((same_upd hy).trans s')⟩⟩
    · refine ⟨_, rfl, rfl, _, rfl, iteT ⟨_, rfl, _, rfl, st, Cs, dx, _, _, rfl, hst, S.cl, S.cuts, sf_cuts, cu, [], rfl, .inr (SqT.of hcu), rfl, rfl, _, rfl, iteF ⟨r, dr, fsr, rfl, hr', CC, fun y hy => ⟨_, rfl, _, rfl, _, rfl, upd_same, ?_⟩⟩⟩⟩
      exact ⟨r, dr, fsr, st, dx, v0, v1, v2, v3, v4, d, cu, v7, m, v9, n, .ref ft, rfl, al hy hr', al hy hst, al hy hcu, hne, .inr ⟨ft, t, x, ts, g, p, ys, rfl, al hy hf, al hy hd, hl, fun s hs => al hy (hp s hs), fun H' s' => q H' ((SameBut.of (same_upd hy)).trans s')⟩⟩
theorem scPutC : SupScope ["self", "stood", "now", "found", "waiting", "came", "value"] ["self", "stood", "now", "found"] (defScope sPutC) :=
  ⟨rfl, rfl, rfl, by decide +kernel, rfl, by decide +kernel, by decide +kernel, by decide +kernel, by decide +kernel, by decide +kernel, rfl, by decide +kernel, by decide +kernel⟩
theorem ok_putC {f C Cs f2 : Addr} {k : Nat} (D : SupD P K "Counting.put_out" sPutC "put_out" f C f2) (B : Bl mg) (CC : Cls K C) (S : StandC K Cs) (F2 : FnR P w K mg base CX0 k f2 (spPut C Cs false)) : FnR P w K mg base CX0 (k + 1) f (spPut C Cs true) := by
  obtain ⟨oc, od, osl, kV, doc, pm, ct, an, cda, cc, Dd, ccl, cl, cdd, cld, vs, ccs, csl, file, tf, cdD, lk, hcd, hcode, hvs, hfile, htop, hcell, hD, hmro, hany, hsup, hty, hfn⟩ := D.ex
  refine fn_super lk hcd scPutC ⟨_, rfl, rfl⟩ (fun us h => ?_) hcode hvs hfile htop hcell hD hmro hany hsup hty hfn rfl B.super (by decide +kernel) spPut_len F2 (fun _ _ => rfl) (fun _ => rfl) (fun _ => rfl) (fun cells A outer s H vs Q E hr h => ?_)
  · match us, h with
    | [_, _, _, _], _ => rfl
  · obtain ⟨r, dr, fsr, st, dx, v0, v1, v2, v3, v4, d, cu, v7, m, v9, n, fv, rfl, hr', hst, hcu, hne, q⟩ := h
    refine ⟨_, _, ps_if (pt_cmpR op_notN (pv 3) pe_non (nomark _))
        (pss_cons (ps_lock (ps_setLc (i := 4) (own := [("came", 5), ("value", 6)]) rfl scPutC.nd rfl rfl (sw_true rfl rfl rfl (by decide +kernel)) (pi_values (pe_fld (pv 1) rfl))
          (blkOk_by (N := ["self", "stood", "now", "found", "waiting", "came", "value"]) (sc := defScope sPutC) (by decide +kernel))
          (fun _ _ _ _ _ => pg_tupK K 2 rfl (pgs_cons (pg_name (i := 5) scPutC.nd rfl (Or.inl rfl) (Or.inr rfl)) (pgs_cons (pg_name (i := 6) scPutC.nd rfl (Or.inl rfl) (Or.inr rfl)) pgs_nil)))
          (fun _ _ _ _ _ => pts_one (pt_cmpR op_gt (pv 5) (pe_ix (ix_tupK K) (pv 3) pe_int (fun _ _ => rfl)) (nomark _))) (fun _ _ _ _ _ => pv 5)))
        (pss_one (ps_fld (pv 1) (pe_op op_sub (pe_op op_sub (pe_op op_add (pe_fld (pv 1) rfl) (pv 2)) (pe_ix ix_tup (pv 3) pe_int (fun _ _ => rfl))) (pe_callB call_len_seq rfl B.len PySem.boot_len (pa_cons (pv 4) pa_nil))) rfl))) pss_nil,
      pa_cons (pv 1) (pa_cons (pv 2) (pa_cons (pv 3) pa_nil)), ?_⟩
    rcases q with ⟨rfl, q⟩ | ⟨ft, t, x, ts, g, p, ys, rfl, hf, hd, hl, hp, q⟩
    · refine ⟨_, rfl, rfl, _, rfl, iteF ⟨r, dr, fsr, rfl, hr', CC, fun y hy => ⟨_, rfl, _, rfl, _, rfl, upd_same, ?_⟩⟩⟩
      exact ⟨r, dr, fsr, st, dx, v0, v1, v2, v3, v4, d, cu, v7, m, v9, n, .non, rfl, al hy hr', al hy hst, al hy hcu, hne, .inl ⟨rfl, fun H' s' => q H' ((same_upd hy).trans s')⟩⟩
    · refine ⟨_, rfl, rfl, _, rfl, iteT ⟨d, _, hd, trivial, fun o0 => ?_⟩⟩
      have wd : ∀ {b : Addr} {o : HO}, o ≠ .dK (ts.map fun (s : Nat) => ((Sum.inl (g s) : Key), V.ref (p s))) → H b = some o → upd H d (.frz o0 (.dK (ts.map fun (s : Nat) => ((Sum.inl (g s) : Key), V.ref (p s))))) b = some o := fun z e => wr hd z e
      refine ⟨_, rfl, st, Cs, dx, _, _, rfl, wd (by intro z; cases z) hst, S.cl, S.due, sf_due, d, o0, _, rfl, upd_same, fun Dl nD => ?_⟩
      refine lc_it walk_values (fun i H' => Same (upd H d (.frz o0 (.dK (ts.map fun (s : Nat) => ((Sum.inl (g s) : Key), V.ref (p s)))))) H' ∧ H' Dl = some (.lst (((ts.take i).filter fun (s : Nat) => decide (t < (s : Nat))).map fun (s : Nat) => V.int (s : Nat))))
        ⟨same_upd nD, upd_same⟩ (fun i H' _ ⟨sm, _⟩ => sm _ _ upd_same) ?_ ?_
      · rintro i x' H' H2 hi ⟨sm, hD⟩ ⟨rfl, k, hx⟩
        rw [List.getElem?_map] at hx
        cases es : ts[i]? with
        | none => rw [es] at hx; cases hx
        | some s' =>
          rw [es] at hx
          obtain rfl : V.ref (p s') = x' := (Prod.ext_iff.mp (Option.some.inj hx)).2
          have tk : ts.take (i + 1) = ts.take i ++ [s'] := by rw [List.take_add_one, es]; rfl
          refine ⟨p s', _, rfl, SqT.of (sm _ _ (wd (by intro z; cases z) (hp s' (List.mem_of_getElem? es)))), rfl, _, _, rfl, _, _, rfl, rfl, rfl, ?_⟩
          refine ⟨_, rfl, _, rfl, ft, _, _, _, rfl, rfl, SqT.of (sm _ _ (wd (by intro z; cases z) hf)), rfl, _, _, rfl, rfl, _, rfl, ?_⟩
          rw [tk, List.filter_append]
          by_cases hc : t < (s' : Nat)
          · rw [show decide (((s' : Nat) : Int) > t) = true from decide_eq_true hc, List.filter_cons_of_pos (p := fun (s : Nat) => decide (t < (s : Nat))) (decide_eq_true hc)]
            refine iteT ⟨_, rfl, _, hD, ?_, fun b o e => ?_, ?_⟩
            · rw [List.length_map]
              refine Nat.lt_of_le_of_lt (List.length_filter_le _ _) (Nat.lt_of_le_of_lt (List.length_take_le' _ _) ?_)
              rw [sizeLine_eq]
              omega
            · have nb : b ≠ Dl := fun z' => by rw [z', nD] at e; cases e
              rw [upd_ne nb]
              exact sm _ _ e
            · rw [upd_same, List.map_append]
              rfl
          · rw [show decide (((s' : Nat) : Int) > t) = false from decide_eq_false hc, List.filter_cons_of_neg (p := fun (s : Nat) => decide (t < (s : Nat))) (by simpa using hc)]
            refine iteF ⟨sm, ?_⟩
            rw [List.filter_nil, List.append_nil]
            exact hD
      · rintro H' ⟨sm, hD⟩
        rw [List.length_map, List.take_of_length_le (Nat.le_refl _)] at hD
        refine ⟨sm _ _ upd_same, ?_⟩
        have nDd : Dl ≠ d := fun z => by rw [z, upd_same] at nD; cases nD
        have hD2 : upd H' d (.dK (ts.map fun (s : Nat) => ((Sum.inl (g s) : Key), V.ref (p s)))) Dl = some (.lst ((ts.filter fun (s : Nat) => decide (t < (s : Nat))).map fun (s : Nat) => V.int (s : Nat))) := by
          rw [upd_ne nDd]
          exact hD
        have sH : Same H (upd H' d (.dK (ts.map fun (s : Nat) => ((Sum.inl (g s) : Key), V.ref (p s))))) := fun b o e => by
          by_cases eb : b = d
          · subst eb
            rw [upd_same]
            rw [hd] at e
            exact e
          · rw [upd_ne eb]
            exact sm _ _ (by rw [upd_ne eb]; exact e)
        generalize upd H' d (.dK (ts.map fun (s : Nat) => ((Sum.inl (g s) : Key), V.ref (p s)))) = G at hD2 sH ⊢
        refine ⟨_, rfl, st, Cs, dx, _, _, rfl, sH _ _ hst, S.cl, S.many, sf_many, _, rfl, _, _, rfl, rfl, _, rfl, ft, _, _, _, rfl, rfl, SqT.of (sH _ _ hf), rfl, _, _, rfl, rfl, _, rfl, Dl, _, rfl, .inl (SqL.of hD2), _, _, rfl, rfl, _, rfl, st, Cs, dx, _, rfl, sH _ _ hst, S.cl, S.many, BA.pm sf_len, ?_⟩
        rw [put_many, List.length_map]
        have wst : ∀ {b : Addr} {o : HO}, b ≠ st → H b = some o → upd G st (.ins Cs dx (sf v0 v1 v2 v3 v4 (.ref d) (.ref cu) v7 (.int (m + n - t - ((ts.filter fun (s : Nat) => decide (t < (s : Nat))).length : Nat))) v9)) b = some o := fun z e => by
          rw [upd_ne z]
          exact sH _ _ e
        have e2 := upd_same (H := G) (a := st) (o := .ins Cs dx (sf v0 v1 v2 v3 v4 (.ref d) (.ref cu) v7 (.int (m + n - t - ((ts.filter fun (s : Nat) => decide (t < (s : Nat))).length : Nat))) v9))
        have sb : SameBut st H (upd G st (.ins Cs dx (sf v0 v1 v2 v3 v4 (.ref d) (.ref cu) v7 (.int (m + n - t - ((ts.filter fun (s : Nat) => decide (t < (s : Nat))).length : Nat))) v9))) := fun b o z e => wst z e
        refine ⟨r, dr, fsr, rfl, wst hne hr', CC, fun y hy => ⟨_, rfl, _, rfl, _, rfl, upd_same, ?_⟩⟩
        refine ⟨r, dr, fsr, st, dx, v0, v1, v2, v3, v4, d, cu, v7, _, v9, n, .ref ft, rfl, al hy (wst hne hr'), al hy e2, al hy (wst (ne_of hcu hst (by intro z; cases z)) hcu), hne, .inr ⟨ft, t, x, ts, g, p, ys, rfl, al hy (wst (ne_of hf hst (by intro z; cases z)) hf), al hy (wst (ne_of hd hst (by intro z; cases z)) hd), hl,
          fun s hs => al hy (wst (ne_of (hp s hs) hst (by intro z; cases z)) (hp s hs)), fun H' s' hs' => q H' ((sb.trans (SameBut.of (same_upd hy))).trans s') ?_⟩⟩
        rw [if_neg (by decide)] at hs'
        rw [if_pos rfl]
        exact hs'
end
end BA
set_option maxHeartbeats 4000000
namespace BA
open PySem PySem.Spec PyProof.Rows PyProof L2
theorem upd_id {H : Hp} {a : Addr} {o : HO} (h : H a = some o) : upd H a o = H := by
  funext b
  by_cases e : b = a
  · rw [e, upd_same, h]
  · rw [upd_ne e]
theorem waits_len {hs : List Nat} {n : Nat} {u : Int} : (waits hs n u).length ≤ n := by
  unfold waits
  exact Nat.le_trans (List.length_filter_le _ _) (by rw [List.length_range]; exact Nat.le_refl _)
theorem waits_lt {hs : List Nat} {n t : Nat} {u : Int} (h : t ∈ waits hs n u) : t < n := List.mem_range.mp (List.mem_filter.mp h).1
theorem waits_eq {hs : List Nat} (T : Tab hs) {n : Nat} (h : ¬ 0 ≤ thing hs n) : waits hs (n + 1) (n : Nat) = waits hs (n + 1) ((n + 1 : Nat) : Int) := by
  unfold waits
  refine List.filter_congr fun t _ => ?_
  have ne : out hs (t : Nat) ≠ (n : Nat) := fun e => by
    have := thing_uniq T e
    omega
  by_cases c : ((n : Nat) : Int) ≤ out hs (t : Nat)
  · rw [decide_eq_true c, decide_eq_true (by omega)]
  · rw [decide_eq_false c, decide_eq_false (by omega)]
theorem put_due_new {hs : List Nat} (T : Tab hs) {p : Nat → Addr} {n : Nat} {t : Addr} {u : Int} :
    putK (dueL hs p (waits hs n u)) (Sum.inl (out hs (n : Nat))) (.ref t) = dueL hs (fun s => if s = n then t else p s) (waits hs n u ++ [n]) := by
  have hn : n ∉ waits hs n u := fun z => Nat.lt_irrefl _ (waits_lt z)
  have e1 : (dueL hs p (waits hs n u)).any (fun kv => decide (kv.1 = (Sum.inl (out hs (n : Nat)) : Key))) = false := by
    rw [List.any_eq_false]
    intro kv hkv e
    obtain ⟨t', ht, rfl⟩ := List.mem_map.mp hkv
    have q := out_inj T (Sum.inl.inj (of_decide_eq_true e))
    have e3 : t' = n := by omega
    subst e3
    exact hn ht
  unfold putK
  rw [e1]
  show dueL hs p (waits hs n u) ++ _ = _
  unfold dueL
  rw [List.map_append]
  congr 1
  · refine List.map_congr_left fun s hs' => ?_
    show _ = ((Sum.inl (out hs (s : Nat)) : Key), V.ref (if s = n then t else p s))
    rw [if_neg (fun e => by subst e; exact hn hs')]
  · show [_] = [((Sum.inl (out hs (n : Nat)) : Key), V.ref (if n = n then t else p n))]
    rw [if_pos rfl]
/-- the overtakings that one tick adds -/
noncomputable def more (c : Bool) (hs : List Nat) (n : Nat) : Int := if c = true then (if 0 ≤ thing hs n then adds hs (thing hs n) else 0) else 0
def spStep (K : PySem.W.Frag) (C Cs : Addr) (c : Bool) : Sp := fun vs H Q _ => ∃ (H0 : Hp) (r dr : Addr) (fsr : List (Str × V)) (st a : Addr) (hs : List Nat) (vals : List V) (m : Int) (v : V),
  vs = [.ref r, .ref st, v] ∧ Same H0 H ∧ H0 r = some (.ins C dr fsr) ∧ fsr.lookup ("put_out" : Str) = none ∧ StandAt Cs H0 H st a hs vals m ∧ SqT K H0 a (tv hs) ∧ Tab hs ∧ vals.length + 1 ≤ 1000 ∧
  ∀ H', Same H0 H' → StandAt Cs H0 H' st a hs (vals ++ [v]) (m + more c hs vals.length) → Q (outV hs (vals ++ [v]) vals.length) H'
section
variable {P : Program} {w : World} {K : PySem.W.Frag} {mg : Str → Option Value} {base : Heap}
theorem scStep : FnScope ["self", "stood", "value", "now", "out"] ["self", "stood", "value"] (defScope sStep) := ⟨rfl, rfl, rfl, by decide +kernel, rfl, by decide +kernel, by decide +kernel⟩
theorem ok_step {f fP C Cs : Addr} {fd : FuncData} {c : Bool} (F : Fun K "step" "Row.step" sStep f fd) (b : Binds K fd ["self", "stood", "value"] []) (B : Bl mg) (CC : Cls K C) (S : StandC K Cs)
    (GA : Pr P w K mg base "hold_ahead" sHoldAhead ["stood", "far"] 3 (spAhead K Cs)) (mP : Meth K C "put_out" fP) (FP : FnR P w K mg base CX0 3 fP (spPut C Cs c)) : FnR P w K mg base CX0 4 f (spStep K C Cs c) := by
  have z : FnOk P w K mg base CX0 4 f fd ["self", "stood", "value"] (spStep K C Cs c) := by
    refine F.ok scStep (fun vs H Q E h => ?_) (fun cdv A outer s H vs Q E hr h => ?_)
    · obtain ⟨H0, r, dr, fsr, st, a, hs, vals, m, v, rfl, _⟩ := h
      rfl
    obtain ⟨H0, r, dr, fsr, st, a, hs, vals, m, v, rfl, s0, hr0, hput, ⟨dx, com, li, lo, d, cu, go, la, n1, n2, n3, n4, n5, n6, h1, h2, h3, h4, h5, h6, h7, h8⟩, hT0, T, hl, q⟩ := h
    obtain ⟨p, hd, hp⟩ := h5
    have hu := hu_of hr
    refine ⟨_, pss_cons (ps_set (i := 3) scStep.nd rfl (.inl rfl) (pe_callB call_len_seq rfl B.len PySem.boot_len (pa_cons (pe_fld (pv 1) rfl) pa_nil)))
      (pss_cons (ps_dput hu (pe_fld (pv 1) rfl) (pe_op op_add (pv 3) (pe_pr GA hr (pa_cons (pv 1) (pa_cons pe_int pa_nil)))) (pe_tup (pa_cons (pv 3) (pa_cons (pv 2) pa_nil))) rfl)
      (pss_cons (ps_fld (pv 1) (pe_slice sl_tupA (pe_fld (pv 1) rfl) (po_some pe_int) po_none) rfl)
      (pss_cons (ps_expr (pe_bm PySem.F.plainAttrs_list PySem.F.slot_list_append PySem.F.type_list_append mt_append (pe_fld (pv 1) rfl) (pa_cons (pv 2) pa_nil)))
      (pss_cons (ps_set (i := 4) scStep.nd rfl (.inl rfl) (pe_methR (pv 0) CC mP FP hr pass0 (pa_cons (pv 1) (pa_cons (pv 3) (pa_cons (pe_dpop2 (pe_fld (pv 1) rfl) (pv 3) pe_non ⟨rfl, rfl, rfl, rfl⟩) pa_nil)))))
      (pss_cons (ps_expr (pe_bm PySem.F.plainAttrs_list PySem.F.slot_list_append PySem.F.type_list_append mt_append (pe_fld (pv 1) rfl) (pa_cons (pv 4) pa_nil)))
      (pss_one (ps_ret (pv 4)))))))), ?_⟩
    have sz : ∀ n, n ≤ 4 → n ≤ sizeLine := fun n h => by rw [sizeLine_eq]; omega
    refine ⟨_, rfl, st, Cs, dx, _, _, rfl, h1, S.cl, S.ins, sf_ins, li, _, rfl, .inl (SqL.of h3), ?_⟩
    -- stood.due[now + hold] = (now, value)
    refine ⟨_, rfl, _, rfl, sz _ (Nat.le_of_ble_eq_true rfl), fun t nt => ?_⟩
    have s1 : Same H (upd H t (.tup [.int (vals.length : Nat), v])) := same_upd nt
    have st1 : Same H0 (upd H t (.tup [.int (vals.length : Nat), v])) := s0.trans s1
    have tt := upd_same (H := H) (a := t) (o := .tup [.int (vals.length : Nat), v])
    have A0 : StandAt Cs H00 (upd H t (.tup [.int (vals.length : Nat), v])) st a hs vals m := ⟨dx, com, li, lo, d, cu, go, la, rfl, rfl, rfl, rfl, n5, n6, s1 _ _ h1, s1 _ _ h2, s1 _ _ h3, s1 _ _ h4, ⟨p, s1 _ _ hd, fun s hs => s1 _ _ (hp s hs)⟩, s1 _ _ h6, s1 _ _ h7, s1 _ _ h8⟩
    have td : t ≠ d := (ne_of_none hd nt).symm
    generalize upd H t (.tup [.int (vals.length : Nat), v]) = G1 at s1 st1 tt A0 ⊢
    refine ⟨_, rfl, st, Cs, dx, _, _, rfl, s1 _ _ h1, S.cl, S.due, sf_due, _, rfl, _, rfl, st, a, hs, vals, m, rfl, A0, Same.seqT st1 hT0, T, _, _, rfl, rfl, d, _, rfl,
      DPut.k (k := Sum.inl (((vals.length : Nat) : Int) + hold hs (vals.length : Nat))) (s1 _ _ hd) (by unfold dueL; rw [List.length_map]; exact small1000 (Nat.le_trans waits_len (by omega))), ?_⟩
    rw [show ((vals.length : Nat) : Int) + hold hs (vals.length : Nat) = out hs (vals.length : Nat) from rfl, put_due_new T, ← waits_more T]
    have s2 : ∀ {b : Addr} {o : HO}, b ≠ d → H b = some o → upd G1 d (.dK (dueL hs (fun s => if s = vals.length then t else p s) (waits hs (vals.length + 1) (vals.length : Nat)))) b = some o := fun z e => by
      rw [upd_ne z]
      exact s1 _ _ e
    have sm2 := same_wr (o := .dK (dueL hs (fun s => if s = vals.length then t else p s) (waits hs (vals.length + 1) (vals.length : Nat)))) n4 st1
    have hd2 := upd_same (H := G1) (a := d) (o := .dK (dueL hs (fun s => if s = vals.length then t else p s) (waits hs (vals.length + 1) (vals.length : Nat))))
    have hp2 : ∀ s, s ∈ waits hs (vals.length + 1) (vals.length : Nat) → upd G1 d (.dK (dueL hs (fun s => if s = vals.length then t else p s) (waits hs (vals.length + 1) (vals.length : Nat)))) ((fun s => if s = vals.length then t else p s) s) = some (.tup [.int (s : Nat), (vals ++ [v]).getD s .non]) := by
      intro s hs'
      show upd G1 d _ (if s = vals.length then t else p s) = _
      by_cases es : s = vals.length
      · rw [if_pos es, upd_ne td, tt, es, List.getD_eq_getElem?_getD, List.getElem?_append_right (Nat.le_refl _), Nat.sub_self]
        rfl
      · have lt : s < vals.length := by have := waits_lt hs'; omega
        have hm : s ∈ waits hs vals.length (vals.length : Nat) := List.mem_filter.mpr ⟨List.mem_range.mpr lt, (List.mem_filter.mp hs').2⟩
        rw [if_neg es, s2 (ne_of (hp s hm) hd (by intro z; cases z)) (hp s hm), List.getD_eq_getElem?_getD, List.getD_eq_getElem?_getD, List.getElem?_append_left lt]
    have g1 := s2 (ne_of h1 hd (by intro z; cases z)) h1
    have g2 := s2 (ne_of h2 hd (by intro z; cases z)) h2
    have g3 := s2 (ne_of h3 hd (by intro z; cases z)) h3
    have g4 := s2 (ne_of h4 hd (by intro z; cases z)) h4
    have g6 := s2 (ne_of h6 hd (by intro z; cases z)) h6
    have g7 := s2 (ne_of h7 hd (by intro z; cases z)) h7
    have g8 := s2 (Ne.symm n6) h8
    clear s2
    generalize (fun s => if s = vals.length then t else p s) = p2 at sm2 hd2 hp2 g1 g2 g3 g4 g6 g7 g8 ⊢
    generalize upd G1 d (.dK (dueL hs p2 (waits hs (vals.length + 1) (vals.length : Nat)))) = G2 at sm2 hd2 hp2 g1 g2 g3 g4 g6 g7 g8 ⊢
    -- stood.coming = stood.coming[1:]
    refine ⟨_, rfl, st, Cs, dx, _, _, rfl, g1, S.cl, S.coming, sf_coming, _, rfl, com, [], rfl, SqT.of g2, fun _ => ?_, fun z => absurd ⟨rfl, rfl⟩ z⟩
    refine ⟨_, rfl, st, Cs, dx, _, rfl, g1, S.cl, S.coming, pm sf_len, ?_⟩
    rw [put_coming, upd_id g1]
    -- stood.ins.append(value)
    refine ⟨_, rfl, st, Cs, dx, _, _, rfl, g1, S.cl, S.ins, sf_ins, .inl ⟨rfl, _, SqL.of g3⟩, _, rfl, li, _, _, rfl, rfl, g3, small1000 (by omega), ?_⟩
    have sm3 := same_wr (o := .lst (vals ++ [v])) n2 sm2
    have w3 : ∀ {b : Addr} {o : HO}, b ≠ li → G2 b = some o → upd G2 li (.lst (vals ++ [v])) b = some o := fun z e => by
      rw [upd_ne z]
      exact e
    have k1 := w3 (ne_of g1 g3 (by intro z; cases z)) g1
    have k2 := w3 (ne_of g2 g3 (by intro z; cases z)) g2
    have k3 := upd_same (H := G2) (a := li) (o := .lst (vals ++ [v]))
    have k4 := w3 n5.symm g4
    have k5 := w3 (ne_of hd2 g3 (by intro z; cases z)) hd2
    have kp : ∀ s, s ∈ waits hs (vals.length + 1) (vals.length : Nat) → upd G2 li (.lst (vals ++ [v])) (p2 s) = some (.tup [.int (s : Nat), (vals ++ [v]).getD s .non]) := fun s hs' => w3 (ne_of (hp2 s hs') g3 (by intro z; cases z)) (hp2 s hs')
    have k6 := w3 (ne_of g6 g3 (by intro z; cases z)) g6
    have k7 := w3 (ne_of g7 g3 (by intro z; cases z)) g7
    have k8 := w3 (ne_of g8 g3 (by intro z; cases z)) g8
    clear w3
    generalize upd G2 li (.lst (vals ++ [v])) = G3 at sm3 k1 k2 k3 k4 k5 kp k6 k7 k8 ⊢
    have hst : r ≠ st := ne_of_none hr0 n1
    -- what is found
    have hrd : st ≠ d := ne_of k1 k5 (by intro z; cases z)
    refine ⟨_, rfl, r, dr, fsr, rfl, sm3 _ _ hr0, hput, _, rfl, _, rfl, _, rfl, st, Cs, dx, _, _, rfl, k1, S.cl, S.due, sf_due, d, rfl, .inl ⟨_, .inl k5⟩, _, rfl, _, Sum.inl (vals.length : Nat), k5, rfl, fun x hx => ?_, fun hx => ?_⟩
    · have c0 : 0 ≤ thing hs vals.length := Classical.byContradiction fun c => by
        rw [waits_none T c] at hx
        cases hx
      have mem := waits_thing T c0
      have eo : out hs (((thing hs vals.length).toNat : Nat) : Int) = (vals.length : Nat) := by rw [Int.toNat_of_nonneg c0, out_thing T]
      have hx2 := val_of T (p := p2) mem
      rw [eo] at hx2
      rw [hx2] at hx
      obtain rfl := Option.some.inj hx
      rw [drop_of T]
      have sm4 := same_wr (o := .dK (dueL hs p2 (waits hs (vals.length + 1) (((vals.length : Nat) : Int) + 1)))) n4 sm3
      have w4 : ∀ {b : Addr} {o : HO}, b ≠ d → G3 b = some o → upd G3 d (.dK (dueL hs p2 (waits hs (vals.length + 1) (((vals.length : Nat) : Int) + 1)))) b = some o := fun z e => by
        rw [upd_ne z]
        exact e
      have l1 := w4 hrd k1
      have l2 := w4 (ne_of k2 k5 (by intro z; cases z)) k2
      have l3 := w4 (ne_of k3 k5 (by intro z; cases z)) k3
      have l4 := w4 (ne_of k4 k5 (by intro z; cases z)) k4
      have l5 := upd_same (H := G3) (a := d) (o := .dK (dueL hs p2 (waits hs (vals.length + 1) (((vals.length : Nat) : Int) + 1))))
      have sub : ∀ s, s ∈ waits hs (vals.length + 1) (((vals.length : Nat) : Int) + 1) → s ∈ waits hs (vals.length + 1) (vals.length : Nat) := fun s hs' => by
        have h2 := List.mem_filter.mp hs'
        exact List.mem_filter.mpr ⟨h2.1, decide_eq_true (by have := of_decide_eq_true h2.2; omega)⟩
      have lp : ∀ s, s ∈ waits hs (vals.length + 1) (vals.length : Nat) → upd G3 d (.dK (dueL hs p2 (waits hs (vals.length + 1) (((vals.length : Nat) : Int) + 1)))) (p2 s) = some (.tup [.int (s : Nat), (vals ++ [v]).getD s .non]) := fun s hs' => w4 (ne_of (kp s hs') k5 (by intro z; cases z)) (kp s hs')
      have l6 := w4 (ne_of k6 k5 (by intro z; cases z)) k6
      have l7 := w4 (ne_of k7 k5 (by intro z; cases z)) k7
      have l8 := w4 (Ne.symm n6) k8
      have lr := sm4 _ _ hr0
      clear w4
      generalize upd G3 d (.dK (dueL hs p2 (waits hs (vals.length + 1) (((vals.length : Nat) : Int) + 1)))) = G4 at sm4 l1 l2 l3 l4 l5 lp l6 l7 l8 lr ⊢
      refine ⟨r, dr, fsr, st, dx, _, _, _, _, _, d, cu, _, m, _, _, _, rfl, lr, l1, l6, hst, .inr ⟨_, ((thing hs vals.length).toNat : Nat), _, _, fun s => out hs (s : Nat), p2, fun s => (vals ++ [v]).getD s .non, rfl, lp _ mem, l5, Nat.le_trans waits_len (by omega), fun s hs' => lp s (sub s hs'), fun H5 sb e5 => ?_⟩⟩
      refine ⟨_, rfl, st, Cs, dx, _, _, rfl, e5, S.cl, S.outs, sf_outs, .inl ⟨rfl, _, SqL.of (sb _ _ (ne_of l4 l1 (by intro z; cases z)) l4)⟩, _, rfl, lo, _, _, rfl, rfl, sb _ _ (ne_of l4 l1 (by intro z; cases z)) l4, ?_, ?_⟩
      · unfold outsOf
        rw [List.length_map, List.length_range]
        exact small1000 (by omega)
      refine ⟨_, rfl, ?_⟩
      have ov : outV hs (vals ++ [v]) vals.length = (vals ++ [v]).getD (thing hs vals.length).toNat .non := by unfold outV; rw [if_pos c0]
      have e4 := sb _ _ (ne_of l4 l1 (by intro z; cases z)) l4
      have w5 : ∀ {b : Addr} {o : HO}, b ≠ st → b ≠ lo → G4 b = some o → upd H5 lo (.lst (outsOf hs vals ++ [(vals ++ [v]).getD (thing hs vals.length).toNat .non])) b = some o := fun z1 z2 e => by
        rw [upd_ne z2]
        exact sb _ _ z1 e
      have ln : (vals ++ [v]).length = vals.length + 1 := by rw [List.length_append]; rfl
      rw [← ov]
      refine q _ (same_wr n3 fun b o e => sb _ _ (ne_of_none e n1) (sm4 _ _ e)) ?_
      rw [ov]
      have em : (if c = true then m + ((vals.length : Nat) : Int) - (((thing hs vals.length).toNat : Nat) : Int) - (((waits hs (vals.length + 1) (((vals.length : Nat) : Int) + 1)).filter fun (s : Nat) => decide ((((thing hs vals.length).toNat : Nat) : Int) < (s : Nat))).length : Nat) else m) = m + more c hs vals.length := by
        unfold more
        cases c
        · simp
        · rw [if_pos rfl, if_pos rfl, if_pos c0, ← adds_waits T c0, Int.toNat_of_nonneg c0, show (((vals.length + 1 : Nat)) : Int) = ((vals.length : Nat) : Int) + 1 from rfl]
          omega
      rw [em] at e5
      refine ⟨dx, com, li, lo, d, cu, go, la, n1, n2, n3, n4, n5, n6, ?_, w5 (ne_of l2 l1 (by intro z; cases z)) (ne_of l2 l4 (by intro z; cases z)) l2, w5 (ne_of l3 l1 (by intro z; cases z)) n5 l3, ?_, ⟨p2, ?_, fun s hs' => ?_⟩, w5 (ne_of l6 l1 (by intro z; cases z)) (ne_of l6 l4 (by intro z; cases z)) l6, w5 (ne_of l7 l1 (by intro z; cases z)) (ne_of l7 l4 (by intro z; cases z)) l7, w5 (ne_of l8 l1 (by intro z; cases z)) (ne_of l8 l4 (by intro z; cases z)) l8⟩
      · rw [upd_ne (ne_of e5 e4 (by intro z; cases z))]
        exact e5
      · rw [upd_same, outsOf_more T, ov]
      · rw [ln]
        exact w5 (ne_of l5 l1 (by intro z; cases z)) (ne_of l5 l4 (by intro z; cases z)) l5
      · rw [ln] at hs'
        have e6 := lp s (sub s hs')
        exact w5 (ne_of e6 l1 (by intro z; cases z)) (ne_of e6 l4 (by intro z; cases z)) e6
    · have c0 : ¬ 0 ≤ thing hs vals.length := fun c => by
        have mem := waits_thing T c
        have hx2 := val_of T (p := p2) mem
        rw [Int.toNat_of_nonneg c, out_thing T] at hx2
        rw [hx2] at hx
        cases hx
      refine ⟨r, dr, fsr, st, dx, _, _, _, _, _, d, cu, _, m, _, _, _, rfl, sm3 _ _ hr0, k1, k6, hst, .inl ⟨rfl, fun H5 sb => ?_⟩⟩
      have e4 := sb _ _ k4
      have e1 := sb _ _ k1
      refine ⟨_, rfl, st, Cs, dx, _, _, rfl, e1, S.cl, S.outs, sf_outs, .inl ⟨rfl, _, SqL.of e4⟩, _, rfl, lo, _, _, rfl, rfl, e4, ?_, ?_⟩
      · unfold outsOf
        rw [List.length_map, List.length_range]
        exact small1000 (by omega)
      refine ⟨_, rfl, ?_⟩
      have ov : outV hs (vals ++ [v]) vals.length = .non := by unfold outV; rw [if_neg c0]
      have w5 : ∀ {b : Addr} {o : HO}, b ≠ lo → G3 b = some o → upd H5 lo (.lst (outsOf hs vals ++ [.non])) b = some o := fun z2 e => by
        rw [upd_ne z2]
        exact sb _ _ e
      have ln : (vals ++ [v]).length = vals.length + 1 := by rw [List.length_append]; rfl
      rw [← ov]
      refine q _ (same_wr n3 (sm3.trans sb)) ?_
      rw [ov]
      have em : m + more c hs vals.length = m := by
        unfold more
        rw [if_neg c0, ite_self, Int.add_zero]
      rw [em]
      refine ⟨dx, com, li, lo, d, cu, go, la, n1, n2, n3, n4, n5, n6, w5 (ne_of k1 k4 (by intro z; cases z)) k1, w5 (ne_of k2 k4 (by intro z; cases z)) k2, w5 n5 k3, ?_, ⟨p2, ?_, fun s hs' => ?_⟩, w5 (ne_of k6 k4 (by intro z; cases z)) k6, w5 (ne_of k7 k4 (by intro z; cases z)) k7, w5 (ne_of k8 k4 (by intro z; cases z)) k8⟩
      · rw [upd_same, outsOf_more T, ov]
      · rw [ln, ← waits_eq T c0]
        exact w5 (ne_of k5 k4 (by intro z; cases z)) k5
      · rw [ln, ← waits_eq T c0] at hs'
        have e6 := kp s hs'
        exact w5 (ne_of e6 k4 (by intro z; cases z)) e6
  have z2 := z.raw b .nil
  intro A outer s H us vs Q E hr e0 r h
  exact z2 A outer s H us vs Q E hr e0 r (by show spStep K C Cs c (vs ++ []) H Q E; rw [List.append_nil]; exact h)
end
end BA
set_option maxHeartbeats 4000000
namespace BA
open PySem PySem.Spec PyProof.Rows PyProof L2
/-- what the law pushes: an int, or the text 'none' -/
def VOk (v : V) : Prop := (∃ i : Int, v = .int i) ∨ v = .str "none"
theorem VOk.flat {v : V} (h : VOk v) (b : Addr) : v ≠ .ref b := by
  rcases h with ⟨i, rfl⟩ | rfl
  · intro z; cases z
  · intro z; cases z
def spValue : Sp := fun vs H Q _ => ∃ v, vs = [v] ∧ VOk v ∧ ∀ H', Same H H' → Q (.bl true) H'
def spNeedV : Sp := fun vs H Q _ => ∃ v, vs = [v] ∧ VOk v ∧ ∀ H', Same H H' → Q .non H'
def spTick (C Cs : Addr) (c : Bool) : Sp := fun vs H Q _ => ∃ (r L a : Addr) (hs : List Nat) (vals : List V), vs = [.ref r] ∧ RowAt C Cs c H r L a hs vals ∧ Q (.int (vals.length : Nat)) H
def spMany (C Cs : Addr) : Sp := fun vs H Q _ => ∃ (r L a : Addr) (hs : List Nat) (vals : List V), vs = [.ref r] ∧ RowAt C Cs true H r L a hs vals ∧ Q (.int (manyOf hs vals.length)) H
def spItem (C Cs : Addr) (c : Bool) : Sp := fun vs H Q _ => ∃ (r L a : Addr) (hs : List Nat) (vals : List V) (i : Nat), vs = [.ref r, .int (i : Nat)] ∧ RowAt C Cs c H r L a hs vals ∧ i < vals.length ∧ Q (outV hs vals i) H
section
variable {P : Program} {w : World} {K : PySem.W.Frag} {mg : Str → Option Value} {base : Heap}
theorem scIsValue : FnScope ["thing", "sign"] ["thing"] (defScope sIsValue) := ⟨rfl, rfl, rfl, by decide +kernel, rfl, by decide +kernel, by decide +kernel⟩
theorem ok_isValue {tM tl : Tok} (D : Df K mg "is_value" sIsValue ["thing"]) (B : Bl mg) (cM : mg "MOST_LETTERS" = some (.int 10 tM)) (cL : mg "LETTERS" = some (.str "abcdefghijklmnopqrstuvwxyz" tl))
    (G : Pr P w K mg base "is_integer" sIsInteger ["thing"] 1 spInt) : Pr P w K mg base "is_value" sIsValue ["thing"] 2 spValue := by
  refine D.ok scIsValue (fun vs H Q E h => ?_) (fun f cdv A outer s H vs Q E hr h => ?_)
  · obtain ⟨v, rfl, _⟩ := h
    rfl
  · obtain ⟨v, rfl, hv, q⟩ := h
    refine ⟨_, pss_cons (ps_if (pt_val (pe_callB call_isi rfl B.isinstance boot_isinstance (pa_cons (pv 0) (pa_cons (pe_bltn (v := .ty "str") rfl B.str (by decide +kernel) rfl) pa_nil))))
        (pss_one (ps_ret (pe_and (pe_chain op_le op_le pe_int (pe_callB call_len_str rfl B.len PySem.boot_len (pa_cons (pv 0) pa_nil)) (pe_glob (v := .int 10) rfl cM ⟨_, rfl⟩))
          (pe_one (pe_callB (cr_all rfl) rfl B.all boot_all (pa_cons (pe_lc (own := [("sign", 1)]) (g := gName 1) (tt := tYes) rfl scIsValue.nd (pi_str (pv 0)) (blkOk_by (N := ["thing", "sign"]) (sc := defScope sIsValue) (by decide +kernel))
            (fun _ _ _ _ _ => pg_name (i := 1) scIsValue.nd rfl (Or.inl rfl)) (fun _ _ _ _ _ => pts_nil) (fun _ _ _ _ _ => pe_cmpR op_in_sign (pv 1) (pe_glob (v := .str "abcdefghijklmnopqrstuvwxyz") rfl cL ⟨_, rfl⟩) rfl)) pa_nil)))))) pss_nil)
      (pss_one (ps_ret (pe_pr G hr (pa_cons (pv 0) pa_nil)))), ?_⟩
    rcases hv with ⟨i, rfl⟩ | rfl
    · refine ⟨_, rfl, _, _, _, _, false, rfl, .ty _, .base (.int i), kit_ty (by decide +kernel), false, rfl, iteF ?_⟩
      exact ⟨_, rfl, i, rfl, q _ fun _ _ e => e⟩
    · refine ⟨_, rfl, _, _, _, _, true, rfl, .ty _, .base (.str _), kit_ty (by decide +kernel), true, rfl, iteT ?_⟩
      refine ⟨_, rfl, "none", rfl, by rw [sizeLine_eq]; decide, _, _, rfl, rfl, true, rfl, iteT ⟨_, _, rfl, rfl, true, rfl, iteT ?_⟩⟩
      refine ⟨_, rfl, "none", rfl, fun d nd => ?_⟩
      refine lc_it walk_str (fun i H' => Same H H' ∧ H' d = some (.lst (List.replicate i (V.bl true)))) ⟨same_upd nd, upd_same⟩ (fun i H' _ _ => trivial) ?_ ?_
      · rintro i x H' H2 hi ⟨sm, hd⟩ ⟨rfl, c, hc, rfl⟩
        refine ⟨rfl, _, rfl, c, _, rfl, rfl, ?_⟩
        have hcl : c ∈ ("abcdefghijklmnopqrstuvwxyz" : Str).cps.toList := by
          have hi4 : i < 4 := hi
          rcases (show i = 0 ∨ i = 1 ∨ i = 2 ∨ i = 3 by omega) with rfl | rfl | rfl | rfl <;> (obtain rfl := Option.some.inj hc; decide +kernel)
        rw [decide_eq_true hcl]
        refine ⟨_, hd, ?_, ?_, ?_⟩
        · rw [List.length_replicate]
          have hi4 : i < 4 := hi
          exact small1000 (by omega)
        · intro b o e
          have nb : b ≠ d := fun z => by rw [z, nd] at e; cases e
          rw [upd_ne nb]
          exact sm _ _ e
        · rw [upd_same, List.replicate_succ']
      · rintro H' ⟨sm, hd⟩
        refine ⟨d, List.replicate ("none" : Str).cps.size true, rfl, SqL.of ?_, ?_⟩
        · rw [List.map_replicate]
          exact hd
        · exact q _ sm
theorem scNeedValue : FnScope ["value"] ["value"] (defScope sNeedValue) := ⟨rfl, rfl, rfl, by decide +kernel, rfl, by decide +kernel, by decide +kernel⟩
theorem ok_needValue (D : Df K mg "need_value" sNeedValue ["value"]) (G : Pr P w K mg base "is_value" sIsValue ["thing"] 2 spValue) : Pr P w K mg base "need_value" sNeedValue ["value"] 3 spNeedV := by
  refine D.ok scNeedValue (fun vs H Q E h => ?_) (fun f cdv A outer s H vs Q E hr h => ?_)
  · obtain ⟨v, rfl, _⟩ := h
    rfl
  · obtain ⟨v, rfl, hv, q⟩ := h
    refine ⟨_, pss_one (ps_if (pt_not (pt_val (pe_pr G hr (pa_cons (pv 0) pa_nil)))) pss_never pss_nil), ?_⟩
    exact ⟨_, rfl, v, rfl, hv, fun H' sm => ⟨true, rfl, iteF (q _ sm)⟩⟩
structure RowC (K : PySem.W.Frag) (C : Addr) : Prop where
  cl : Cls K C
  stands : NoAttr K C "stands"
theorem scTick : FnScope ["self"] ["self"] (defScope sTick) := ⟨rfl, rfl, rfl, by decide +kernel, rfl, by decide +kernel, by decide +kernel⟩
theorem ok_tick {f C Cs : Addr} {fd : FuncData} {c : Bool} (F : Fun K "tick" "Row.tick" sTick f fd) (B : Bl mg) (R : RowC K C) (S : StandC K Cs) : FnOk P w K mg base CX0 1 f fd ["self"] (spTick C Cs c) := by
  refine F.ok scTick (fun vs H Q E h => ?_) (fun cdv A outer s H vs Q E hr h => ?_)
  · obtain ⟨r, L, a, hs, vals, rfl, _⟩ := h
    rfl
  · obtain ⟨r, L, a, hs, vals, rfl, ⟨dr, sts, st, hr0, hL, _, dx, com, li, lo, d, cu, go, la, _, _, _, _, _, _, h1, h2, h3, h4, h5, h6, h7, h8⟩, q⟩ := h
    refine ⟨_, pss_one (ps_ret (pe_callB call_len_seq rfl B.len PySem.boot_len (pa_cons (pe_fld (pe_ix ix_list (pe_fld (pv 0) rfl) (pe_un un_neg pe_int) (fun _ _ => rfl)) rfl) pa_nil))), ?_⟩
    exact ⟨_, rfl, r, C, dr, _, _, rfl, hr0, R.cl, R.stands, lk_here, _, rfl, L, _, _, _, rfl, rfl, SqL.of hL, atI_last _ _, st, Cs, dx, _, _, rfl, h1, S.cl, S.ins, sf_ins, li, _, rfl, .inl (SqL.of h3), q⟩
theorem scMany : FnScope ["self"] ["self"] (defScope BA.sOver) := ⟨rfl, rfl, rfl, by decide +kernel, rfl, by decide +kernel, by decide +kernel⟩
theorem ok_many {f C Cs : Addr} {fd : FuncData} (F : Fun K "overtakings" "Counting.overtakings" BA.sOver f fd) (R : RowC K C) (S : StandC K Cs) : FnOk P w K mg base CX0 1 f fd ["self"] (spMany C Cs) := by
  refine F.ok scMany (fun vs H Q E h => ?_) (fun cdv A outer s H vs Q E hr h => ?_)
  · obtain ⟨r, L, a, hs, vals, rfl, _⟩ := h
    rfl
  · obtain ⟨r, L, a, hs, vals, rfl, ⟨dr, sts, st, hr0, hL, _, dx, com, li, lo, d, cu, go, la, _, _, _, _, _, _, h1, h2, h3, h4, h5, h6, h7, h8⟩, q⟩ := h
    refine ⟨_, pss_one (ps_ret (pe_fld (pe_ix ix_list (pe_fld (pv 0) rfl) (pe_un un_neg pe_int) (fun _ _ => rfl)) rfl)), ?_⟩
    exact ⟨_, rfl, r, C, dr, _, _, rfl, hr0, R.cl, R.stands, lk_here, _, rfl, L, _, _, _, rfl, rfl, SqL.of hL, atI_last _ _, st, Cs, dx, _, _, rfl, h1, S.cl, S.many, sf_many, q⟩
theorem scGetItem : FnScope ["self", "tick"] ["self", "tick"] (defScope sGetItem) := ⟨rfl, rfl, rfl, by decide +kernel, rfl, by decide +kernel, by decide +kernel⟩
theorem ok_item {f C Cs pT fT : Addr} {fd fdT : FuncData} {c : Bool} (F : Fun K "__getitem__" "Row.__getitem__" sGetItem f fd) (R : RowC K C) (S : StandC K Cs) (pt : PropOf K C "tick" pT fT) (FT : FnOk P w K mg base CX0 1 fT fdT ["self"] (spTick C Cs c)) (bT : Binds K fdT ["self"] [])
    (GB : Pr P w K mg base "is_between" sIsBetween ["thing", "low", "high"] 2 spBetween) : FnOk P w K mg base CX0 3 f fd ["self", "tick"] (spItem C Cs c) := by
  refine F.ok scGetItem (fun vs H Q E h => ?_) (fun cdv A outer s H vs Q E hr h => ?_)
  · obtain ⟨r, L, a, hs, vals, i, rfl, _⟩ := h
    rfl
  · obtain ⟨r, L, a, hs, vals, i, rfl, hR, hi, q⟩ := h
    have hR' := hR
    obtain ⟨dr, sts, st, hr0, hL, _, dx, com, li, lo, d, cu, go, la, _, _, _, _, _, _, h1, h2, h3, h4, h5, h6, h7, h8⟩ := hR'
    refine ⟨_, pss_cons (ps_if (pt_not (pt_val (pe_pr GB hr (pa_cons (pv 1) (pa_cons pe_int (pa_cons (pe_op op_sub (pe_prop (pv 0) R.cl pt FT hr bT .nil pass0 rfl) pe_int) pa_nil)))))) pss_never pss_nil)
      (pss_one (ps_ret (pe_ix ix_list (pe_fld (pe_ix ix_list (pe_fld (pv 0) rfl) (pe_un un_neg pe_int) (fun _ _ => rfl)) rfl) (pv 1) (fun _ _ => rfl)))), ?_⟩
    refine ⟨_, rfl, _, rfl, r, dr, _, rfl, hr0, r, L, a, hs, vals, rfl, hR, _, _, rfl, rfl, _, _, _, rfl, by omega, by omega, true, rfl, iteF ?_⟩
    refine ⟨_, rfl, r, C, dr, _, _, rfl, hr0, R.cl, R.stands, lk_here, _, rfl, L, _, _, _, rfl, rfl, SqL.of hL, atI_last _ _, st, Cs, dx, _, _, rfl, h1, S.cl, S.outs, sf_outs, _, rfl, lo, _, _, _, rfl, rfl, SqL.of h4, atI_nat (v := outV hs vals i) ?_, q⟩
    unfold outsOf
    rw [List.getElem?_map, List.getElem?_range hi]
    rfl
end
end BA
set_option maxHeartbeats 4000000
namespace BA
open PySem PySem.Spec PyProof.Rows PyProof L2
/-! ### rows whose own lists are none of Z's -/
def RowZ (Z : Hp) (C Cs : Addr) (c : Bool) (H : Hp) (r L a : Addr) (hs : List Nat) (vals : List V) : Prop :=
  ∃ (dx : Addr) (sts : List V) (st : Addr), H r = some (.ins C dx [("stands", .ref L)]) ∧ H L = some (.lst (sts ++ [.ref st])) ∧ sts.length ≤ vals.length ∧ StandAt Cs Z H st a hs vals (if c = true then manyOf hs vals.length else 0)
theorem RowZ.row {Z : Hp} {C Cs : Addr} {c : Bool} {H : Hp} {r L a : Addr} {hs : List Nat} {vals : List V} (h : RowZ Z C Cs c H r L a hs vals) : RowAt C Cs c H r L a hs vals := by
  obtain ⟨dx, sts, st, h1, h2, h3, h4⟩ := h
  exact ⟨dx, sts, st, h1, h2, h3, h4.weak⟩
theorem RowZ.keep {Z : Hp} {C Cs : Addr} {c : Bool} {H H' : Hp} {r L a : Addr} {hs : List Nat} {vals : List V} (h : RowZ Z C Cs c H r L a hs vals) (k : Same H H') : RowZ Z C Cs c H' r L a hs vals := by
  obtain ⟨dx, sts, st, h1, h2, h3, h4⟩ := h
  exact ⟨dx, sts, st, k _ _ h1, k _ _ h2, h3, h4.keep k⟩
/-- fewer lists named -/
theorem StandAt.less {Z Z' : Hp} {Cs : Addr} {H : Hp} {st a : Addr} {hs : List Nat} {vals : List V} {m : Int} (h : StandAt Cs Z H st a hs vals m) (d : ∀ b, Z b = none → Z' b = none) : StandAt Cs Z' H st a hs vals m := by
  obtain ⟨dx, com, li, lo, dd, cu, go, la, n1, n2, n3, n4, r⟩ := h
  exact ⟨dx, com, li, lo, dd, cu, go, la, d _ n1, d _ n2, d _ n3, d _ n4, r⟩
theorem RowZ.less {Z Z' : Hp} {C Cs : Addr} {c : Bool} {H : Hp} {r L a : Addr} {hs : List Nat} {vals : List V} (h : RowZ Z C Cs c H r L a hs vals) (d : ∀ b, Z b = none → Z' b = none) : RowZ Z' C Cs c H r L a hs vals := by
  obtain ⟨dx, sts, st, h1, h2, h3, h4⟩ := h
  exact ⟨dx, sts, st, h1, h2, h3, h4.less d⟩
/-- a list more named, that is new -/
theorem RowZ.more {Z : Hp} {C Cs : Addr} {c : Bool} {H : Hp} {r L a l : Addr} {hs : List Nat} {vals : List V} {o : HO} (h : RowZ Z C Cs c H r L a hs vals) (nl : H l = none) : RowZ (upd Z l o) C Cs c H r L a hs vals := by
  obtain ⟨dxr, sts, st, e1, e2, e3, dx, com, li, lo, d, cu, go, la, n1, n2, n3, n4, n5, n6, h1, h2, h3, h4, ⟨p, h5, hp⟩, h6, h7, h8⟩ := h
  have f : ∀ {b : Addr} {o' : HO}, Z b = none → H b = some o' → upd Z l o b = none := fun e e2 => by
    rw [upd_ne (ne_of_none e2 nl)]
    exact e
  exact ⟨dxr, sts, st, e1, e2, e3, dx, com, li, lo, d, cu, go, la, f n1 h1, f n2 h3, f n3 h4, f n4 h5, n5, n6, h1, h2, h3, h4, ⟨p, h5, hp⟩, h6, h7, h8⟩
/-- a row stays where one of the named lists is written -/
theorem RowZ.but {Z : Hp} {C Cs : Addr} {c : Bool} {H H' : Hp} {r L a l : Addr} {hs : List Nat} {vals ys : List V} {o : HO} (h : RowZ Z C Cs c H r L a hs vals) (z : Z l = some o) (hl : H l = some (.lst ys)) (nL : L ≠ l) (s : SameBut l H H') : RowZ Z C Cs c H' r L a hs vals := by
  obtain ⟨dxr, sts, st, e1, e2, e3, dx, com, li, lo, d, cu, go, la, n1, n2, n3, n4, n5, n6, h1, h2, h3, h4, ⟨p, h5, hp⟩, h6, h7, h8⟩ := h
  have f : ∀ {b : Addr}, Z b = none → b ≠ l := fun e e2 => by rw [e2, z] at e; cases e
  have k : ∀ {b : Addr} {o : HO}, b ≠ l → H b = some o → H' b = some o := fun n e => s _ _ n e
  exact ⟨dxr, sts, st, k (ne_of e1 hl (by intro z; cases z)) e1, k nL e2, e3, dx, com, li, lo, d, cu, go, la, n1, n2, n3, n4, n5, n6, k (f n1) h1, k (ne_of h2 hl (by intro z; cases z)) h2, k (f n2) h3, k (f n3) h4,
    ⟨p, k (ne_of h5 hl (by intro z; cases z)) h5, fun t ht => k (ne_of (hp t ht) hl (by intro z; cases z)) (hp t ht)⟩, k (ne_of h6 hl (by intro z; cases z)) h6, k (ne_of h7 hl (by intro z; cases z)) h7, k (ne_of h8 hl (by intro z; cases z)) h8⟩
/-! ### Row.__init__ -/
def spRowI (K : PySem.W.Frag) (C Cs : Addr) (c : Bool) : Sp := fun vs H Q _ => ∃ (H0 : Hp) (p dx a : Addr) (hs : List Nat), vs = [.ref p, .ref a] ∧ Same H0 H ∧ H0 p = none ∧ H p = some (.ins C dx []) ∧ SqT K H a (tv hs) ∧ Tab hs ∧
  ∀ H' L, Same H0 H' → H0 L = none → RowZ (upd H0 L (.lst [])) C Cs c H' p L a hs [] → Q .non H'
section
variable {P : Program} {w : World} {K : PySem.W.Frag} {mg : Str → Option Value} {base : Heap}
theorem scRowI : FnScope ["self", "table"] ["self", "table"] (defScope sRowI) := ⟨rfl, rfl, rfl, by decide +kernel, rfl, by decide +kernel, by decide +kernel⟩
theorem ok_rowI {f C Cs fI : Addr} {fd fdI : FuncData} {c : Bool} (F : Fun K "__init__" "Row.__init__" sRowI f fd) (R : RowC K C) (S : StandC K Cs) (GT : Pr P w K mg base "need_table" sNeedTable ["table"] 4 (spNeedT K))
    (FI : Fun K "__init__" "Stand.__init__" sStandI fI fdI) (M : Mk K Cs fI) (mgS : mg "Stand" = some (.ref Cs)) (bI : Binds K fdI ["self", "own"] []) : FnOk P w K mg base CX0 5 f fd ["self", "table"] (spRowI K C Cs c) := by
  refine F.ok scRowI (fun vs H Q E h => ?_) (fun cdv A outer s H vs Q E hr h => ?_)
  · obtain ⟨H0, p, dx, a, hs, rfl, _⟩ := h
    rfl
  · obtain ⟨H0, p, dx, a, hs, rfl, s0, n0, hp, hT, T, q⟩ := h
    refine ⟨_, pss_cons (ps_expr (pe_pr GT hr (pa_cons (pv 1) pa_nil))) (pss_one (ps_fld (pv 0) (pe_lst (pa_cons (pe_make M (ok_standI FI S) (hr.mono (by decide)) (by rfl) mgS bI .nil pass0 (pa_cons (pv 1) pa_nil)) pa_nil)) rfl)), ?_⟩
    refine ⟨_, rfl, a, hs, rfl, hT, T, fun H1 s1 => ?_⟩
    refine ⟨_, rfl, fun x dxx nx ndx ne => ⟨H1, x, dxx, a, hs, rfl, (same_upd ndx).trans (same_upd (by rw [upd_ne ne.symm]; exact nx)), nx, upd_same, fun H2 s2 A => ⟨rfl, ?_⟩⟩⟩
    refine ⟨by rw [sizeLine_eq]; exact Nat.le_of_ble_eq_true rfl, fun L nL => ?_⟩
    have e2 := al nL (o := .lst [.ref x]) (s2 _ _ (s1 _ _ hp))
    refine ⟨_, rfl, p, C, dx, _, rfl, e2, R.cl, R.stands, pm pz, ?_⟩
    have np : ∀ {b : Addr}, H1 b = none → b ≠ p := fun e z => by
      subst z
      rw [s1 _ _ hp] at e
      cases e
    have sE : Same H0 (upd (upd H2 L (.lst [.ref x])) p (.ins C dx (putF "stands" (.ref L) []))) := same_wr n0 (((s0.trans s1).trans s2).trans (same_upd nL))
    have nL0 : H0 L = none := (((s0.trans s1).trans s2)).free nL
    refine q _ L sE nL0 ⟨dx, [], x, upd_same, wr e2 (by intro z; cases z) upd_same, Nat.le_refl _, ?_⟩
    have hm : (if c = true then manyOf hs ([] : List V).length else 0) = 0 := by cases c <;> rfl
    rw [hm]
    obtain ⟨dxs, com, li, lo, d, cu, go, la, n1, n2, n3, n4, n5, n6, h1, h2, h3, h4, ⟨pp, h5, hp5⟩, h6, h7, h8⟩ := A
    have zf : ∀ {b : Addr} {o : HO}, H1 b = none → H2 b = some o → upd H0 L (.lst []) b = none := fun e e2' => by
      rw [upd_ne (ne_of_none e2' nL)]
      exact (s0.trans s1).free e
    have k : ∀ {b : Addr} {o : HO}, H2 b = some o → o ≠ .ins C dx [] → upd (upd H2 L (.lst [.ref x])) p (.ins C dx (putF "stands" (.ref L) [])) b = some o := fun e z => wr e2 z (al nL e)
    have nxp : x ≠ p := np nx
    refine ⟨dxs, com, li, lo, d, cu, go, la, zf n1 h1, zf n2 h3, zf n3 h4, zf n4 h5, n5, n6, ?_, k h2 (by intro z; cases z), k h3 (by intro z; cases z), k h4 (by intro z; cases z), ⟨pp, k h5 (by intro z; cases z), fun t ht => nomatch ht⟩, k h6 (by intro z; cases z), k h7 (by intro z; cases z), k h8 (by intro z; cases z)⟩
    rw [upd_ne nxp]
    exact al nL h1
end
/-! ### push -/
/-- carried past a list that is none of the stand's own -/
theorem StandAt.past {Cs : Addr} {H0 H : Hp} {st a l : Addr} {hs : List Nat} {vals xs ys zs : List V} {m : Int} (h : StandAt Cs (upd H0 l (.lst xs)) H st a hs vals m) (hl : H l = some (.lst ys)) : StandAt Cs H0 (upd H l (.lst zs)) st a hs vals m := by
  obtain ⟨dx, com, li, lo, d, cu, go, la, n1, n2, n3, n4, n5, n6, h1, h2, h3, h4, ⟨p, h5, hp⟩, h6, h7, h8⟩ := h
  have k : ∀ {b : Addr} {o : HO}, b ≠ l → H b = some o → upd H l (.lst zs) b = some o := fun z e => by
    rw [upd_ne z]
    exact e
  exact ⟨dx, com, li, lo, d, cu, go, la, free_al n1, free_al n2, free_al n3, free_al n4, n5, n6, k (ne_al n1) h1, k (ne_of h2 hl (by intro z; cases z)) h2, k (ne_al n2) h3, k (ne_al n3) h4,
    ⟨p, k (ne_of h5 hl (by intro z; cases z)) h5, fun t ht => k (ne_of (hp t ht) hl (by intro z; cases z)) (hp t ht)⟩, k (ne_of h6 hl (by intro z; cases z)) h6, k (ne_of h7 hl (by intro z; cases z)) h7, k (ne_of h8 hl (by intro z; cases z)) h8⟩
/-- carried over a new object -/
theorem StandAt.newer {Cs : Addr} {H0 H : Hp} {st a l : Addr} {hs : List Nat} {vals : List V} {m : Int} {o : HO} (h : StandAt Cs H0 H st a hs vals m) (nl : H l = none) : StandAt Cs (upd H0 l o) (upd H l o) st a hs vals m := by
  obtain ⟨dx, com, li, lo, d, cu, go, la, n1, n2, n3, n4, n5, n6, h1, h2, h3, h4, ⟨p, h5, hp⟩, h6, h7, h8⟩ := h
  have k : ∀ {b : Addr} {o' : HO}, H b = some o' → upd H l o b = some o' := fun e => al nl e
  have f : ∀ {b : Addr} {o' : HO}, H0 b = none → H b = some o' → upd H0 l o b = none := fun e e2 => by
    rw [upd_ne (ne_of_none e2 nl)]
    exact e
  exact ⟨dx, com, li, lo, d, cu, go, la, f n1 h1, f n2 h3, f n3 h4, f n4 h5, n5, n6, k h1, k h2, k h3, k h4, ⟨p, k h5, fun t ht => k (hp t ht)⟩, k h6, k h7, k h8⟩
/-- a stand that stands in a heap ahead of the list at l: the list is none of its own -/
theorem StandAt.upd {Cs : Addr} {Z H0 H : Hp} {st a l : Addr} {hs : List Nat} {vals xs ys zs : List V} {m : Int} (h : StandAt Cs H0 H st a hs vals m) (h0 : H0 l = some (.lst xs)) (hl : H l = some (.lst ys)) (hZ : ∀ b, H0 b = none → Z b = none) : StandAt Cs Z (upd H l (.lst zs)) st a hs vals m := by
  obtain ⟨dx, com, li, lo, d, cu, go, la, n1, n2, n3, n4, n5, n6, h1, h2, h3, h4, ⟨p, h5, hp⟩, h6, h7, h8⟩ := h
  have k : ∀ {b : Addr} {o : HO}, b ≠ l → H b = some o → L2.upd H l (.lst zs) b = some o := fun z e => by
    rw [upd_ne z]
    exact e
  have f : ∀ {b : Addr}, H0 b = none → b ≠ l := fun e z => by rw [z, h0] at e; cases e
  exact ⟨dx, com, li, lo, d, cu, go, la, hZ _ n1, hZ _ n2, hZ _ n3, hZ _ n4, n5, n6, k (f n1) h1, k (ne_of h2 hl (by intro z; cases z)) h2, k (f n2) h3, k (f n3) h4,
    ⟨p, k (ne_of h5 hl (by intro z; cases z)) h5, fun t ht => k (ne_of (hp t ht) hl (by intro z; cases z)) (hp t ht)⟩, k (ne_of h6 hl (by intro z; cases z)) h6, k (ne_of h7 hl (by intro z; cases z)) h7, k (ne_of h8 hl (by intro z; cases z)) h8⟩
/-- one value pushed -/
def spPush (K : PySem.W.Frag) (C Cs : Addr) (c : Bool) : Sp := fun vs H Q _ => ∃ (Z : Hp) (r L a : Addr) (hs : List Nat) (vals : List V) (v : V), vs = [.ref r, v] ∧ VOk v ∧ RowAt C Cs c H r L a hs vals ∧ (∀ b, H b = none → Z b = none) ∧ SqT K H a (tv hs) ∧ Tab hs ∧ vals.length + 1 ≤ 1000 ∧
  ∀ H', SameBut L H H' → RowZ Z C Cs c H' r L a hs (vals ++ [v]) → Q (outV hs (vals ++ [v]) vals.length) H'
def spPushAll (K : PySem.W.Frag) (C Cs : Addr) (c : Bool) : Sp := fun vs H Q _ => ∃ (Z : Hp) (r L a : Addr) (hs : List Nat) (vals : List V) (v : V), vs = [.ref r, v] ∧ VOk v ∧ RowAt C Cs c H r L a hs vals ∧ (∀ b, H b = none → Z b = none) ∧ SqT K H a (tv hs) ∧ Tab hs ∧ vals.length + 1 ≤ 1000 ∧
  ∀ H' p, SameBut L H H' → RowZ Z C Cs c H' r L a hs (vals ++ [v]) → H' p = some (.tup [outV hs (vals ++ [v]) vals.length]) → Q (.ref p) H'
theorem many_step {hs : List Nat} {c : Bool} {n : Nat} : (if c = true then manyOf hs n else 0) + more c hs n = (if c = true then manyOf hs (n + 1) else 0) := by
  cases c <;> rfl
section
variable {P : Program} {w : World} {K : PySem.W.Frag} {mg : Str → Option Value} {base : Heap}
theorem scPushAll : FnScope ["self", "values", "value", "stood", "found"] ["self", "values"] (defScope sPushAll) := ⟨rfl, rfl, rfl, by decide +kernel, rfl, by decide +kernel, by decide +kernel⟩
theorem ok_pushAll {f fS C Cs : Addr} {fd : FuncData} {c : Bool} (F : Fun K "push_all" "Row.push_all" sPushAll f fd) (B : Bl mg) (R : RowC K C) (S : StandC K Cs) (GV : Pr P w K mg base "need_value" sNeedValue ["value"] 4 spNeedV)
    (GC : Pr P w K mg base "copied" sCopied ["stood"] 4 (spCopied Cs)) (mS : Meth K C "step" fS) (FS : FnR P w K mg base CX0 4 fS (spStep K C Cs c)) : FnR P w K mg base CX0 5 f (spPushAll K C Cs c) := by
  obtain ⟨oc, od, kV, doc, pm, an, cdv, ct, osl, rfl, lk, hcd⟩ := F.ex
  have z := StX.fn_star (P := P) (w := w) (mg := mg) (base := base) (k := 4) (CX := CX0) (N := ["self", "values", "value", "stood", "found"]) (ps := ["self"]) (pv := "values")
    (sp := fun vs H Q _ => ∃ (Z : Hp) (r L a : Addr) (hs : List Nat) (vals : List V) (v : V) (p : Addr) (H0 : Hp), vs = [.ref r, .ref p] ∧ H = upd H0 p (.tup [v]) ∧ H0 p = none ∧ VOk v ∧ RowAt C Cs c H0 r L a hs vals ∧ (∀ b, H0 b = none → Z b = none) ∧ SqT K H0 a (tv hs) ∧ Tab hs ∧ vals.length + 1 ≤ 1000 ∧
      ∀ H' p, SameBut L H0 H' → RowZ Z C Cs c H' r L a hs (vals ++ [v]) → H' p = some (.tup [outV hs (vals ++ [v]) vals.length]) → Q (.ref p) H')
    lk hcd scPushAll StX.cxUp_none (StX.bind_star1 (B := fun us => bindArgs (PySem.W.fnOf "push_all" "Row.push_all" (defArgs sPushAll) (defBody sPushAll) (defScope sPushAll) .none kV doc pm an cdv ct) { pos := us }) (p1 := "self") (pv := "values") (fun _ => rfl) (fun _ _ _ => rfl)) (fun A outer s H vs Q E hr h => ?_)
  · intro A outer s H us vs Q E hr e0 rr h
    refine z A outer s H us vs Q E hr e0 rr ?_
    obtain ⟨Z, r, L, a, hs, vals, v, rfl, hv, hR, hZ, hT, T, hl, q⟩ := h
    exact ⟨[.ref r], [v], rfl, rfl, by rw [sizeLine_eq]; exact Nat.le_of_ble_eq_true rfl, fun p np => ⟨Z, r, L, a, hs, vals, v, p, H, rfl, rfl, np, hv, hR, hZ, hT, T, hl, q⟩⟩
  · obtain ⟨Z, r, L, a, hs, vals, v, tp, H0, rfl, rfl, ntp, hv, hR, hZ, hT, T, hl, q⟩ := h
    refine ⟨_, PSs.nox (pss_cons (ps_for PassesOwn.never rfl (pi_tup (pv 1)) (pg_name (i := 2) scPushAll.nd rfl (.inl rfl)) (pss_one (ps_expr (pe_pr GV hr (pa_cons (pv 2) pa_nil)))))
      (pss_cons (ps_set (i := 3) scPushAll.nd rfl (.inr rfl) (pe_pr GC hr (pa_cons (pe_ix ix_list (pe_fld (pv 0) rfl) (pe_un un_neg pe_int) (fun _ _ => rfl)) pa_nil)))
      (pss_cons (ps_set (i := 4) scPushAll.nd rfl (.inl rfl) (pe_callTy call_tuple_of (by rfl) B.tuple (by decide +kernel) (pa_cons (pe_lc (own := [("value", 2)]) (g := gName 2) (tt := tYes) rfl scPushAll.nd (pi_tup (pv 1))
          (blkOk_by (N := ["self", "values", "value", "stood", "found"]) (sc := defScope sPushAll) (by decide +kernel)) (fun _ _ _ _ _ => pg_name (i := 2) scPushAll.nd rfl (Or.inl rfl)) (fun _ _ _ _ _ => pts_nil)
          (fun _ _ _ _ _ => pe_methR (pv 0) R.cl mS FS hr pass0 (pa_cons (pv 3) (pa_cons (pv 2) pa_nil)))) pa_nil)))
      (pss_cons (ps_expr (pe_bm PySem.F.plainAttrs_list PySem.F.slot_list_append PySem.F.type_list_append mt_append (pe_fld (pv 0) rfl) (pa_cons (pv 3) pa_nil)))
      (pss_one (ps_ret (pv 4))))))), ?_⟩
    have htp : upd H0 tp (.tup [v]) tp = some (.tup [v]) := upd_same
    have s0 : Same H0 (upd H0 tp (.tup [v])) := same_upd ntp
    generalize upd H0 tp (.tup [v]) = H at htp s0 ⊢
    refine ⟨_, rfl, tp, rfl, ⟨_, SqT.of htp⟩, ?_⟩
    refine for_tup (K := K) (a := tp) (xs := [v]) (fun i σ H' => Same H H' ∧ ∃ o2, σ = [some (.ref r), some (.ref tp), o2, none, none]) ⟨fun _ _ e => e, none, rfl⟩ (fun i σ H' _ ⟨sm, _⟩ => SqT.of (sm _ _ htp)) ?_ ?_
    · rintro i x σ H' hx ⟨sm, o2, rfl⟩
      have ex : x = v := by
        match i, hx with
        | 0, hx => exact (Option.some.inj hx).symm
      subst ex
      exact ⟨_, rfl, x, rfl, hv, fun H2 s2 => ⟨sm.trans s2, some x, rfl⟩⟩
    · rintro σ H1 ⟨sm, o2, rfl⟩
      have s1 := s0.trans sm
      have hR1 := hR.keep s1
      have hR1' := hR1
      obtain ⟨dr, sts, st, hr1, hL, hsl, A⟩ := hR1
      have htp1 := sm _ _ htp
      refine ⟨_, rfl, r, C, dr, _, _, rfl, hr1, R.cl, R.stands, lk_here, _, rfl, L, _, _, _, rfl, rfl, SqL.of hL, atI_last _ _, st, a, hs, vals, _, rfl, A, by omega, fun H2 p s2 A2 => ?_⟩
      refine ⟨_, rfl, tp, rfl, ⟨_, SqT.of (s2 _ _ htp1)⟩, fun D nD => ?_⟩
      have n1D : H1 D = none := s2.free nD
      have rD : r ≠ D := ne_of_none hr1 n1D
      refine lc_tup (K := K) (a := tp) (xs := [v]) (fun i H' => (i = 0 ∧ H' = upd H2 D (.lst [])) ∨ (i = 1 ∧ Same H1 H' ∧ H' D = some (.lst [outV hs (vals ++ [v]) vals.length]) ∧ StandAt Cs H1 H' p a hs (vals ++ [v]) (if c = true then manyOf hs (vals.length + 1) else 0)))
        (.inl ⟨rfl, rfl⟩) (fun i H' _ hP => ?_) ?_ ?_
      · rcases hP with ⟨rfl, rfl⟩ | ⟨rfl, sm', _⟩
        · exact SqT.of (al nD (s2 _ _ htp1))
        · exact SqT.of (sm' _ _ htp1)
      · rintro i x H' hx hP
        have hi : i = 0 ∧ x = v := by
          match i, hx with
          | 0, hx => exact ⟨rfl, (Option.some.inj hx).symm⟩
        obtain ⟨rfl, rfl⟩ := hi
        obtain rfl : H' = upd H2 D (.lst []) := by
          rcases hP with ⟨_, e⟩ | ⟨e, _⟩
          · exact e
          · cases e
        have sD : Same (upd H1 D (.lst [])) (upd H2 D (.lst [])) := fun b o e => by
          by_cases eb : b = D
          · rw [eb, upd_same] at e ⊢
            exact e
          · rw [upd_ne eb] at e ⊢
            exact s2 _ _ e
        refine ⟨rfl, _, rfl, r, dr, _, rfl, al nD (s2 _ _ hr1), (lk_past (by decide +kernel)).trans rfl, _, rfl, _, rfl, ?_⟩
        refine ⟨upd H1 D (.lst []), r, dr, _, p, a, hs, vals, _, x, rfl, sD, al n1D hr1, (lk_past (by decide +kernel)).trans rfl, A2.newer nD, Same.seqT (s1.trans (same_upd n1D)) hT, T, hl, fun H3 s3 A3 => ?_⟩
        have hD3 : H3 D = some (.lst []) := s3 _ _ upd_same
        refine ⟨[], hD3, by rw [sizeLine_eq]; exact Nat.le_of_ble_eq_true rfl, .inr ⟨rfl, fun b o e => ?_, upd_same, ?_⟩⟩
        · have nb : b ≠ D := fun z' => by rw [z', n1D] at e; cases e
          rw [upd_ne nb]
          exact s3 _ _ (by rw [upd_ne nb]; exact e)
        · rw [many_step] at A3
          exact A3.past hD3
      · rintro H3 hP
        obtain ⟨s3, hD3, A3⟩ : Same H1 H3 ∧ H3 D = some (.lst [outV hs (vals ++ [v]) vals.length]) ∧ StandAt Cs H1 H3 p a hs (vals ++ [v]) (if c = true then manyOf hs (vals.length + 1) else 0) := by
          rcases hP with ⟨e, _⟩ | ⟨_, r⟩
          · cases e
          · exact r
        refine ⟨D, _, rfl, .inl ⟨SqL.of hD3, fun t nt => ?_⟩⟩
        have hL3 := s3 _ _ hL
        have hr3 := s3 _ _ hr1
        have sl : sts.length + 1 ≤ 1000 := by omega
        refine ⟨_, rfl, r, C, dr, _, _, rfl, al nt hr3, R.cl, R.stands, lk_here, .inl ⟨rfl, _, SqL.of (al nt hL3)⟩, _, rfl, L, _, _, rfl, rfl, al nt hL3, ?_, ?_⟩
        · rw [List.length_append]
          exact small1000 sl
        have Lt : L ≠ t := ne_of_none hL3 nt
        refine ⟨_, rfl, q _ t ?_ ⟨dr, sts ++ [.ref st], p, ?_, ?_, ?_, ?_⟩ ?_⟩
        · exact (SameBut.of ((s1.trans s3).trans (same_upd nt))).trans SameBut.upd
        · rw [upd_ne (ne_of hr3 hL3 (by intro z; cases z))]
          exact al nt hr3
        · exact upd_same
        · rw [List.length_append, List.length_append]
          show sts.length + 1 ≤ vals.length + 1
          omega
        · rw [show (vals ++ [v]).length = vals.length + 1 by rw [List.length_append]; rfl]
          exact (A3.keep (same_upd nt)).upd hL (al nt hL3) fun b e => hZ b (s1.free e)
        · rw [upd_ne Lt.symm]
          exact upd_same
theorem scPush : FnScope ["self", "value"] ["self", "value"] (defScope sPush) := ⟨rfl, rfl, rfl, by decide +kernel, rfl, by decide +kernel, by decide +kernel⟩
theorem ok_push {f fA C Cs : Addr} {fd : FuncData} {c : Bool} (F : Fun K "push" "Row.push" sPush f fd) (b : Binds K fd ["self", "value"] []) (R : RowC K C) (GV : Pr P w K mg base "need_value" sNeedValue ["value"] 5 spNeedV)
    (mA : Meth K C "push_all" fA) (FA : FnR P w K mg base CX0 5 fA (spPushAll K C Cs c)) : FnR P w K mg base CX0 6 f (spPush K C Cs c) := by
  have z : FnOk P w K mg base CX0 6 f fd ["self", "value"] (spPush K C Cs c) := by
    refine F.ok scPush (fun vs H Q E h => ?_) (fun cdv A outer s H vs Q E hr h => ?_)
    · obtain ⟨Z, r, L, a, hs, vals, v, rfl, _⟩ := h
      rfl
    obtain ⟨Z, r, L, a, hs, vals, v, rfl, hv, hR, hZ, hT, T, hl, q⟩ := h
    refine ⟨_, pss_cons (ps_expr (pe_pr GV hr (pa_cons (pv 1) pa_nil))) (pss_one (ps_ret (pe_ix ix_tup (pe_methR (pv 0) R.cl mA FA hr pass0 (pa_cons (pv 1) pa_nil)) pe_int (fun _ _ => rfl)))), ?_⟩
    refine ⟨_, rfl, v, rfl, hv, fun H1 s1 => ?_⟩
    have hR1 := hR.keep s1
    have hR1' := hR1
    obtain ⟨dr, sts, st, hr1, _⟩ := hR1'
    refine ⟨_, rfl, r, dr, _, rfl, hr1, (lk_past (by decide +kernel)).trans rfl, _, rfl, Z, r, L, a, hs, vals, v, rfl, hv, hR1, (fun b e => hZ b (s1.free e)), Same.seqT s1 hT, T, hl, fun H2 p s2 hR2 hp => ?_⟩
    exact ⟨p, _, _, _, rfl, rfl, SqT.of hp, rfl, q _ ((SameBut.of s1).trans s2) hR2⟩
  have z2 := z.raw b .nil
  intro A outer s H us vs Q E hr e0 r h
  exact z2 A outer s H us vs Q E hr e0 r (by show spPush K C Cs c (vs ++ []) H Q E; rw [List.append_nil]; exact h)
end
end BA
set_option maxHeartbeats 4000000
namespace BA
open PySem PySem.Spec PyProof.Rows PyProof L2
theorem waits_few {hs : List Nat} (T : Tab hs) (n : Nat) : (waits hs n (n : Nat)).length ≤ 60 := by
  unfold waits
  have e : n = (n - 60) + min n 60 := by omega
  have hr : List.range n = List.range (n - 60) ++ (List.range (min n 60)).map fun x => (n - 60) + x := by
    conv => lhs; rw [e]
    exact List.range_add
  rw [hr, List.filter_append, List.length_append]
  have z : (List.range (n - 60)).filter (fun (t : Nat) => decide (((n : Nat) : Int) ≤ out hs (t : Nat))) = [] := by
    rw [List.filter_eq_nil_iff]
    intro t ht hd
    have ht := List.mem_range.mp ht
    have hd := of_decide_eq_true hd
    have := hold_le60 T (t : Nat)
    unfold out at hd
    omega
  rw [z]
  refine Nat.le_trans (Nat.add_le_add_left (List.length_filter_le _ _) _) ?_
  rw [List.length_map, List.length_range]
  show 0 + min n 60 ≤ 60
  omega
/-- the tuple at p: the ticks to go and the things, the ticks us ascending -/
structure HeldAt (H : Hp) (p : Addr) (hs : List Nat) (vals : List V) (us : List Int) (as : List Addr) : Prop where
  at_ : H p = some (.tup (as.map V.ref))
  len : as.length = us.length
  perm : us.Perm ((waits hs vals.length (vals.length : Nat)).map fun (t : Nat) => out hs (t : Nat))
  asc : us.Pairwise (· ≤ ·)
  item : ∀ j, j < us.length → H (as.getD j 0) = some (.tup [.int (us.getD j 0 - (vals.length : Nat)), vals.getD (thing hs (us.getD j 0)).toNat .non])
theorem HeldAt.same {H H' : Hp} {p : Addr} {hs : List Nat} {vals : List V} {us : List Int} {as : List Addr} (h : HeldAt H p hs vals us as) (s : Same H H') : HeldAt H' p hs vals us as :=
  ⟨s _ _ h.at_, h.len, h.perm, h.asc, fun j hj => s _ _ (h.item j hj)⟩
def spRHeld (C Cs : Addr) (c : Bool) : Sp := fun vs H Q _ => ∃ (r L a : Addr) (hs : List Nat) (vals : List V), vs = [.ref r] ∧ RowAt C Cs c H r L a hs vals ∧ Tab hs ∧ vals.length ≤ 1000 ∧ ∀ H' p us as, Same H H' → HeldAt H' p hs vals us as → Q (.ref p) H'
section
variable {P : Program} {w : World} {K : PySem.W.Frag} {mg : Str → Option Value} {base : Heap}
theorem scRHeld : FnScope ["self", "due", "when"] ["self"] (defScope sRHeld) := ⟨rfl, rfl, rfl, by decide +kernel, rfl, by decide +kernel, by decide +kernel⟩
theorem ok_rheld {f C Cs pT fT : Addr} {fd fdT : FuncData} {c : Bool} (F : Fun K "held" "Row.held" sRHeld f fd) (B : Bl mg) (R : RowC K C) (S : StandC K Cs) (pt : PropOf K C "tick" pT fT) (FT : FnOk P w K mg base CX0 1 fT fdT ["self"] (spTick C Cs c)) (bT : Binds K fdT ["self"] []) :
    FnOk P w K mg base CX0 3 f fd ["self"] (spRHeld C Cs c) := by
  refine F.ok scRHeld (fun vs H Q E h => ?_) (fun cdv A outer s H vs Q E hr h => ?_)
  · obtain ⟨r, L, a, hs, vals, rfl, _⟩ := h
    rfl
  · obtain ⟨r, L, a, hs, vals, rfl, hR, T, hl, q⟩ := h
    have hR' := hR
    obtain ⟨dr, sts, st, hr0, hL, _, dx, com, li, lo, d, cu, go, la, _, _, _, _, _, _, h1, h2, h3, h4, ⟨pp, h5, hp5⟩, h6, h7, h8⟩ := hR'
    have hu := hu_of hr
    refine ⟨_, pss_cons (ps_set (i := 1) scRHeld.nd rfl (.inr rfl) (pe_fld (pe_ix ix_list (pe_fld (pv 0) rfl) (pe_un un_neg pe_int) (fun _ _ => rfl)) rfl))
      (pss_one (ps_ret (pe_callTy call_tuple_of (by rfl) B.tuple (by decide +kernel) (pa_cons (pe_lc (own := [("when", 2)]) (g := gName 2) (tt := tYes) rfl scRHeld.nd (pi_list (pe_callB (call_sortedDI rfl) rfl B.sorted (by decide +kernel) (pa_cons (pv 1) pa_nil)))
          (blkOk_by (N := ["self", "due", "when"]) (sc := defScope sRHeld) (by decide +kernel)) (fun _ _ _ _ _ => pg_name (i := 2) scRHeld.nd rfl (Or.inl rfl)) (fun _ _ _ _ _ => pts_nil)
          (fun _ _ _ _ _ => pe_tup (pa_cons (pe_op op_sub (pv 2) (pe_prop (pv 0) R.cl pt FT hr bT .nil pass0 rfl)) (pa_cons (pe_ix (ix_tupK K) (pe_dget hu (pv 1) (pv 2) (fun _ _ => rfl)) pe_int (fun _ _ => rfl)) pa_nil)))) pa_nil)))), ?_⟩
    refine ⟨_, rfl, r, C, dr, _, _, rfl, hr0, R.cl, R.stands, lk_here, _, rfl, L, _, _, _, rfl, rfl, SqL.of hL, atI_last _ _, st, Cs, dx, _, _, rfl, h1, S.cl, S.due, sf_due, ?_⟩
    refine ⟨_, rfl, d, _, (waits hs vals.length (vals.length : Nat)).map (fun (t : Nat) => out hs (t : Nat)), rfl, .inl h5, ?_, ?_, fun ys p hperm hasc np => ?_⟩
    · unfold dueL
      rw [List.map_map, List.map_map]
      rfl
    · rw [List.length_map]
      have := waits_few T vals.length
      omega
    refine ⟨p, rfl, ⟨_, SqL.of upd_same⟩, fun D nD => ?_⟩
    have s1 : Same H (upd H p (.lst (ys.map V.int))) := same_upd np
    have hp1 : upd H p (.lst (ys.map V.int)) p = some (.lst (ys.map V.int)) := upd_same
    generalize upd H p (.lst (ys.map V.int)) = H1 at s1 hp1 nD ⊢
    have yl : ys.length ≤ 60 := by
      rw [hperm.length_eq, List.length_map]
      exact waits_few T vals.length
    refine lc_list (K := K) (a := p) (xs := ys.map V.int) (fun i H' => Same H1 H' ∧ ∃ as : List Addr, as.length = i ∧ H' D = some (.lst (as.map V.ref)) ∧ ∀ j, j < i → H' (as.getD j 0) = some (.tup [.int (ys.getD j 0 - (vals.length : Nat)), vals.getD (thing hs (ys.getD j 0)).toNat .non]))
      ⟨same_upd nD, [], rfl, upd_same, fun j h => by omega⟩ (fun i H' _ ⟨sm, _⟩ => sm.seq (SqL.of hp1)) ?_ ?_
    · rintro i x H' hx ⟨sm, as, la', hD, hI⟩
      rw [List.getElem?_map] at hx
      cases eu : ys[i]? with
      | none => rw [eu] at hx; cases hx
      | some u =>
        rw [eu] at hx
        obtain rfl := Option.some.inj hx
        have hi : i < ys.length := (List.getElem?_eq_some_iff.mp eu).1
        have gu : ys.getD i 0 = u := by rw [List.getD_eq_getElem?_getD, eu]; rfl
        obtain ⟨t, ht, eo⟩ := List.mem_map.mp (hperm.mem_iff.mp (List.mem_of_getElem? eu))
        have et := thing_uniq T eo
        have s2 := s1.trans sm
        refine ⟨rfl, _, rfl, _, rfl, r, dr, _, rfl, s2 _ _ hr0, r, L, a, hs, vals, rfl, hR.keep s2, _, _, rfl, rfl, _, rfl, _, rfl, d, .ref (pp t), rfl, ?_, pp t, _, _, _, rfl, rfl, SqT.of (s2 _ _ (hp5 t ht)), rfl, by rw [sizeLine_eq]; exact Nat.le_of_ble_eq_true rfl, fun q nq => ?_⟩
        · have e := DGet.k (k := Sum.inl u) (s2 _ _ h5)
          rw [← eo, val_of T ht] at e
          rw [← eo]
          exact e
        · have Dq : D ≠ q := ne_of_none hD nq
          have nD' : ∀ {b : Addr} {o : HO}, H1 b = some o → b ≠ D := fun e z => by rw [z, nD] at e; cases e
          refine ⟨_, al nq hD, ?_, fun b o e => ?_, as ++ [q], ?_, ?_, fun j hj => ?_⟩
          · rw [List.length_map, la']
            exact small1000 (by omega)
          · rw [upd_ne (nD' e)]
            exact al nq (sm _ _ e)
          · rw [List.length_append, la']
            rfl
          · rw [upd_same, List.map_append]
            rfl
          · by_cases ej : j = i
            · subst ej
              have e1 : (as ++ [q]).getD j 0 = q := by
                rw [List.getD_eq_getElem?_getD, List.getElem?_append_right (by omega), la', Nat.sub_self]
                rfl
              rw [e1, gu, upd_ne Dq.symm, upd_same, et, Int.toNat_natCast]
            · have hj' := hI j (by omega)
              have e1 : (as ++ [q]).getD j 0 = as.getD j 0 := by
                rw [List.getD_eq_getElem?_getD, List.getElem?_append_left (by omega), ← List.getD_eq_getElem?_getD]
              rw [e1, upd_ne (ne_of hj' hD (by intro z; cases z))]
              exact al nq hj'
    · rintro H' ⟨sm, as, la', hD, hI⟩
      refine ⟨D, _, rfl, .inl ⟨SqL.of hD, fun p2 np2 => ?_⟩⟩
      rw [List.length_map] at la' hI
      exact q _ p2 ys as ((s1.trans sm).trans (same_upd np2)) ⟨upd_same, la', hperm, hasc, fun j hj => al np2 (hI j hj)⟩
end
end BA
set_option maxHeartbeats 4000000
namespace BA
open PySem PySem.Spec PyProof.Rows PyProof L2
def spCell (K : PySem.W.Frag) : Sp := fun vs H Q _ => ∃ (a : Addr) (ns : List Int) (k : Nat), vs = [.ref a, .int (k : Nat)] ∧ SqL K H a (ns.map V.int) ∧ ∀ i, Q (.int i) H
/-- the pen: what is left of the number, and the stirred state -/
def PenAt (H : Hp) (l : Addr) : Prop := ∃ x y z : Int, H l = some (.lst [.int x, .int y, .int z]) ∧ 0 ≤ y ∧ y < 2147483648
def spPen : Sp := fun vs H Q _ => ∃ c : Int, vs = [.int c] ∧ ∀ H' l, Same H H' → H l = none → PenAt H' l → Q (.ref l) H'
def spDraw : Sp := fun vs H Q _ => ∃ (l : Addr) (n : Int), vs = [.ref l, .int n] ∧ PenAt H l ∧ 0 < n ∧ n < 1073741824 ∧ ∀ H' i, SameBut l H H' → PenAt H' l → 0 ≤ i → i < n → Q (.int i) H'
section
variable {P : Program} {w : World} {K : PySem.W.Frag} {mg : Str → Option Value} {base : Heap}
theorem scCell : FnScope ["_law_script", "_law_k"] ["_law_script", "_law_k"] (defScope sCell) := ⟨rfl, rfl, rfl, by decide +kernel, rfl, by decide +kernel, by decide +kernel⟩
theorem ok_cell (D : Df K mg "_law_cell" sCell ["_law_script", "_law_k"]) (B : Bl mg) : Pr P w K mg base "_law_cell" sCell ["_law_script", "_law_k"] 1 (spCell K) := by
  refine D.ok scCell (fun vs H Q E h => ?_) (fun f cdv A outer s H vs Q E hr h => ?_)
  · obtain ⟨a, ns, k, rfl, _⟩ := h
    rfl
  · obtain ⟨a, ns, k, rfl, hS, q⟩ := h
    refine ⟨_, pss_cons (ps_if (pt_cmpR op_lt (pv 1) (pe_callB call_len_seq rfl B.len PySem.boot_len (pa_cons (pv 0) pa_nil)) (nomark _)) (pss_one (ps_ret (pe_ix ix_list (pv 0) (pv 1) (fun _ _ => rfl)))) pss_nil)
      (pss_one (ps_ret pe_int)), ?_⟩
    refine ⟨_, rfl, _, rfl, a, _, rfl, .inl hS, _, _, rfl, rfl, _, rfl, ?_⟩
    by_cases c : k < ns.length
    · rw [decide_eq_true (show ((k : Nat) : Int) < (((ns.map V.int).length : Nat) : Int) by rw [List.length_map]; omega)]
      refine iteT ⟨_, rfl, _, rfl, a, _, _, _, rfl, rfl, hS, atI_nat (v := V.int (ns.getD k 0)) ?_, q _⟩
      rw [List.getElem?_map, List.getD_eq_getElem?_getD, List.getElem?_eq_getElem c]
      rfl
    · rw [decide_eq_false (show ¬ ((k : Nat) : Int) < (((ns.map V.int).length : Nat) : Int) by rw [List.length_map]; omega)]
      exact iteF (q _)
theorem scPen : FnScope ["_law_cell_here"] ["_law_cell_here"] (defScope sPen) := ⟨rfl, rfl, rfl, by decide +kernel, rfl, by decide +kernel, by decide +kernel⟩
theorem ok_pen (D : Df K mg "_law_pen" sPen ["_law_cell_here"]) (B : Bl mg) : Pr P w K mg base "_law_pen" sPen ["_law_cell_here"] 1 spPen := by
  refine D.ok scPen (fun vs H Q E h => ?_) (fun f cdv A outer s H vs Q E hr h => ?_)
  · obtain ⟨c, rfl, _⟩ := h
    rfl
  · obtain ⟨c, rfl, q⟩ := h
    refine ⟨_, pss_one (ps_ret (pe_lst (pa_cons (pe_callB (call_max2 rfl) rfl B.max boot_max (pa_cons pe_int (pa_cons (pe_op op_sub (pv 0) (pe_op op_pow pe_int pe_int)) pa_nil)))
      (pa_cons (pe_op op_add (pe_op op_mod (pv 0) pe_int) pe_int) (pa_cons pe_int pa_nil))))), ?_⟩
    refine ⟨_, rfl, _, _, rfl, rfl, ⟨by decide, by decide, by decide⟩, _, _, rfl, rfl, _, _, rfl, _, rfl, _, _, rfl, rfl, (by show (0 : Int) < 2147483629; decide), _, _, rfl, rfl, by rw [sizeLine_eq]; exact Nat.le_of_ble_eq_true rfl, fun l nl => ?_⟩
    exact q _ l (same_upd nl) nl ⟨_, _, _, upd_same, by have := Int.emod_nonneg c (show (2147483629 : Int) ≠ 0 by decide); omega, by have := Int.emod_lt_of_pos c (show (0 : Int) < 2147483629 by decide); omega⟩
theorem scDraw : FnScope ["_law_pen_here", "_law_upto", "_law_found", "_law_stirred"] ["_law_pen_here", "_law_upto"] (defScope sDraw) := ⟨rfl, rfl, rfl, by decide +kernel, rfl, by decide +kernel, by decide +kernel⟩
theorem ok_draw (D : Df K mg "_law_draw" sDraw ["_law_pen_here", "_law_upto"]) : Pr P w K mg base "_law_draw" sDraw ["_law_pen_here", "_law_upto"] 1 spDraw := by
  refine D.ok scDraw (fun vs H Q E h => ?_) (fun f cdv A outer s H vs Q E hr h => ?_)
  · obtain ⟨l, n, rfl, _⟩ := h
    rfl
  · obtain ⟨l, n, rfl, ⟨x, y, z, hl, y0, y1⟩, n0, n1, q⟩ := h
    refine ⟨_, pss_cons (ps_if (pt_cmpR op_gt (pe_ix ix_list (pv 0) pe_int (fun _ _ => rfl)) pe_int (nomark _))
        (pss_cons (ps_set (i := 2) scDraw.nd rfl (.inl rfl) (pe_op op_mod (pe_ix ix_list (pv 0) pe_int (fun _ _ => rfl)) (pv 1)))
        (pss_cons (ps_asg (pe_op op_fdiv (pe_ix ix_list (pv 0) pe_int (fun _ _ => rfl)) (pv 1)) (pg_sub (pv 0) pe_int set_list))
        (pss_one (ps_ret (pv 2))))) pss_nil)
      (pss_cons (ps_asg (pe_op op_add (pe_ix ix_list (pv 0) pe_int (fun _ _ => rfl)) pe_int) (pg_sub (pv 0) pe_int set_list))
      (pss_cons (ps_asg (pe_op op_mod (pe_op op_add (pe_op op_add (pe_op op_mul (pe_ix ix_list (pv 0) pe_int (fun _ _ => rfl)) pe_int) (pe_op op_mul pe_int (pe_ix ix_list (pv 0) pe_int (fun _ _ => rfl)))) pe_int) pe_int) (pg_sub (pv 0) pe_int set_list))
      (pss_cons (ps_set (i := 3) scDraw.nd rfl (.inl rfl) (pe_op op_mod (pe_op op_add (pe_op op_add (pe_op op_mul (pe_ix ix_list (pv 0) pe_int (fun _ _ => rfl)) (pe_ix ix_list (pv 0) pe_int (fun _ _ => rfl))) (pe_op op_mul pe_int (pe_ix ix_list (pv 0) pe_int (fun _ _ => rfl)))) pe_int) pe_int))
      (pss_cons (ps_set (i := 3) scDraw.nd rfl (.inl rfl) (pe_op op_mod (pe_op op_add (pe_op op_mul (pv 3) (pv 3)) (pe_op op_mul pe_int (pv 3))) pe_int))
      (pss_one (ps_ret (pe_op op_mod (pe_op op_fdiv (pv 3) pe_int) (pv 1)))))))), ?_⟩
    refine ⟨_, rfl, l, _, _, _, rfl, rfl, SqL.of hl, rfl, _, _, rfl, rfl, _, rfl, ?_⟩
    by_cases c : x > 0
    · rw [decide_eq_true c]
      refine iteT ⟨_, rfl, l, _, _, _, rfl, rfl, SqL.of hl, rfl, _, rfl, _, _, rfl, rfl, n0, ?_⟩
      refine ⟨_, rfl, l, _, _, _, rfl, rfl, SqL.of hl, rfl, _, rfl, _, _, rfl, rfl, ⟨n0, n1⟩, _, rfl, l, _, _, 0, rfl, rfl, hl, rfl, ?_⟩
      exact ⟨_, rfl, q _ _ SameBut.upd ⟨_, y, z, upd_same, y0, y1⟩ (Int.emod_nonneg x (by omega)) (Int.emod_lt_of_pos x n0)⟩
    · rw [decide_eq_false c]
      refine iteF ?_
      refine ⟨_, rfl, l, _, _, _, rfl, rfl, SqL.of hl, rfl, _, _, rfl, rfl, _, rfl, l, _, _, 2, rfl, rfl, hl, rfl, ?_⟩
      have h1 := upd_same (H := H) (a := l) (o := .lst [.int x, .int y, .int (z + 1)])
      have b1 := SameBut.upd (l := l) (H := H) (o := .lst [.int x, .int y, .int (z + 1)])
      refine ⟨_, rfl, l, _, _, _, rfl, rfl, SqL.of h1, rfl, _, _, rfl, rfl, .inl ⟨by omega, by omega⟩, _, rfl, l, _, _, _, rfl, rfl, SqL.of h1, rfl, _, _, rfl, rfl, .inl ⟨by decide, by decide⟩, _, _, rfl, rfl, _, _, rfl, rfl, _, _, rfl, rfl, (by show (0 : Int) < 2147483647; decide), _, rfl, l, _, _, 1, rfl, rfl, h1, rfl, ?_⟩
      have z0 : 0 ≤ (y * 48271 + 1009 * (z + 1) + 7) % 2147483647 := by exact Int.emod_nonneg _ (by decide)
      have z1 : (y * 48271 + 1009 * (z + 1) + 7) % 2147483647 < 2147483647 := by exact Int.emod_lt_of_pos _ (by decide)
      have h2 := upd_same (H := upd H l (.lst [.int x, .int y, .int (z + 1)])) (a := l) (o := .lst [.int x, .int ((y * 48271 + 1009 * (z + 1) + 7) % 2147483647), .int (z + 1)])
      have b2 := b1.trans (SameBut.upd (l := l) (H := upd H l (.lst [.int x, .int y, .int (z + 1)])) (o := .lst [.int x, .int ((y * 48271 + 1009 * (z + 1) + 7) % 2147483647), .int (z + 1)]))
      refine ⟨_, rfl, l, _, _, _, rfl, rfl, SqL.of h2, rfl, _, rfl, l, _, _, _, rfl, rfl, SqL.of h2, rfl, _, _, rfl, rfl, .inl ⟨by omega, by omega⟩, _, rfl, l, _, _, _, rfl, rfl, SqL.of h2, rfl, _, _, rfl, rfl, .inl ⟨by decide, by decide⟩, _, _, rfl, rfl, _, _, rfl, rfl, _, _, rfl, rfl, (by show (0 : Int) < 2147483629; decide), ?_⟩
      have s10 : ∀ x : Int, -(2 ^ 64) < x % 2147483629 ∧ x % 2147483629 < 2 ^ 64 := fun x => by
        have h1 := Int.emod_nonneg x (show (2147483629 : Int) ≠ 0 by decide)
        have h2 := Int.emod_lt_of_pos x (show (0 : Int) < 2147483629 by decide)
        omega
      refine ⟨_, rfl, _, rfl, _, _, rfl, rfl, .inl (s10 _), _, rfl, _, _, rfl, rfl, .inl ⟨by decide, by decide⟩, _, _, rfl, rfl, _, _, rfl, rfl, (by show (0 : Int) < 2147483587; decide), ?_⟩
      refine ⟨_, rfl, _, _, rfl, rfl, ⟨by decide, by decide⟩, _, rfl, _, _, rfl, rfl, n0, ?_⟩
      exact q _ _ b2 ⟨x, _, z + 1, h2, z0, by omega⟩ (Int.emod_nonneg _ (by omega)) (Int.emod_lt_of_pos _ n0)
end
end BA
set_option maxHeartbeats 4000000
namespace BA
open PySem PySem.Spec PyProof.Rows PyProof L2
theorem seqIx {i n : Nat} (h : i < n) : seqIndex? ((i : Nat) : Int) n = some i := by
  unfold seqIndex?
  have c : ¬ ((i : Nat) : Int) < 0 := by omega
  rw [if_neg c]
  show (if (decide (0 ≤ ((i : Nat) : Int)) && decide (((i : Nat) : Int) < (n : Nat))) = true then some ((i : Nat) : Int).toNat else none) = some i
  rw [decide_eq_true (show 0 ≤ ((i : Nat) : Int) by omega), decide_eq_true (show ((i : Nat) : Int) < (n : Nat) by omega), Int.toNat_natCast]
  rfl
/-! ### a table half made -/
structure Mid (n i : Nat) (xs hs : List Nat) : Prop where
  len : hs.length = i
  tot : xs.length + i = n
  nd : xs.Nodup
  lt : ∀ x, x ∈ xs → x < n
  off : ∀ j, j < i → (j + hs.getD j 0) % n ∉ xs
  inj : ∀ j k, j < i → k < i → (j + hs.getD j 0) % n = (k + hs.getD k 0) % n → j = k
  le : ∀ h, h ∈ hs → h ≤ 23
theorem Mid.start (n : Nat) : Mid n 0 (List.range n) [] :=
  ⟨rfl, by rw [List.length_range]; rfl, List.nodup_range, fun x h => List.mem_range.mp h, fun j h => by omega, fun j k h => by omega, fun h z => nomatch z⟩
/-- where a hold that was drawn leads -/
theorem drawn_place {n i g u : Nat} (hi : i < n) (hg : g < n) : (i + ((((g : Int) - (i : Nat)) % (n : Nat)).toNat + n * u)) % n = g := by
  have hn : (0 : Int) < (n : Nat) := by omega
  rw [← Nat.add_assoc, Nat.add_mul_mod_self_left]
  have e0 := Int.emod_nonneg ((g : Int) - (i : Nat)) (show ((n : Nat) : Int) ≠ 0 by omega)
  by_cases c : i ≤ g
  · have e : ((g : Int) - (i : Nat)) % (n : Nat) = (g : Int) - (i : Nat) := Int.emod_eq_of_lt (by omega) (by omega)
    rw [e, show i + ((g : Int) - (i : Nat)).toNat = g by omega]
    exact Nat.mod_eq_of_lt hg
  · have e : ((g : Int) - (i : Nat)) % (n : Nat) = (g : Int) - (i : Nat) + (n : Nat) := by
      rw [← Int.add_emod_right]
      exact Int.emod_eq_of_lt (by omega) (by omega)
    rw [e, show i + ((g : Int) - (i : Nat) + (n : Nat)).toNat = g + n by omega, Nat.add_mod_right]
    exact Nat.mod_eq_of_lt hg
theorem Mid.step {n i g t u : Nat} {xs hs : List Nat} (M : Mid n i xs hs) (hi : i < n) (hn : n ≤ 8) (hg : xs[t]? = some g) (hu : u ≤ 2) : Mid n (i + 1) (xs.eraseIdx t) (hs ++ [(((g : Int) - (i : Nat)) % (n : Nat)).toNat + n * u]) := by
  have ht : t < xs.length := (List.getElem?_eq_some_iff.mp hg).1
  have gx : xs[t] = g := (List.getElem?_eq_some_iff.mp hg).2
  have hgn : g < n := M.lt g (List.mem_of_getElem? hg)
  have hp := drawn_place (u := u) hi hgn
  have old : ∀ j, j < i → (hs ++ [(((g : Int) - (i : Nat)) % (n : Nat)).toNat + n * u]).getD j 0 = hs.getD j 0 := fun j hj => by
    rw [List.getD_eq_getElem?_getD, List.getElem?_append_left (by rw [M.len]; exact hj), ← List.getD_eq_getElem?_getD]
  have new : (hs ++ [(((g : Int) - (i : Nat)) % (n : Nat)).toNat + n * u]).getD i 0 = (((g : Int) - (i : Nat)) % (n : Nat)).toNat + n * u := by
    rw [List.getD_eq_getElem?_getD, List.getElem?_append_right (by rw [M.len]; exact Nat.le_refl _), M.len, Nat.sub_self]
    rfl
  have sub : ∀ x, x ∈ xs.eraseIdx t → x ∈ xs := fun x h => (List.eraseIdx_sublist xs t).subset h
  have ng : g ∉ xs.eraseIdx t := by
    have hs' : xs = xs.take t ++ xs[t] :: xs.drop (t + 1) := by
      rw [List.getElem_cons_drop, List.take_append_drop]
    have nd := M.nd
    rw [hs', List.nodup_append] at nd
    rw [List.eraseIdx_eq_take_drop_succ]
    intro h
    rcases List.mem_append.mp h with h | h
    · exact nd.2.2 g h xs[t] (List.mem_cons_self ..) gx.symm
    · exact (List.nodup_cons.mp nd.2.1).1 (gx ▸ h)
  refine ⟨by rw [List.length_append, M.len]; rfl, ?_, M.nd.eraseIdx t, fun x h => M.lt x (sub x h), fun j hj => ?_, fun j k hj hk e => ?_, fun h hh => ?_⟩
  · rw [List.length_eraseIdx_of_lt ht]
    have := M.tot
    omega
  · by_cases e : j = i
    · subst e
      rw [new, hp]
      exact ng
    · rw [old j (by omega)]
      exact fun z => M.off j (by omega) (sub _ z)
  · by_cases ej : j = i
    · by_cases ek : k = i
      · omega
      · subst ej
        rw [new, hp, old k (by omega)] at e
        exact absurd (e ▸ List.mem_of_getElem? hg) (M.off k (by omega))
    · by_cases ek : k = i
      · subst ek
        rw [new, hp, old j (by omega)] at e
        exact absurd (e ▸ List.mem_of_getElem? hg) (M.off j (by omega))
      · rw [old j (by omega), old k (by omega)] at e
        exact M.inj j k (by omega) (by omega) e
  · rcases List.mem_append.mp hh with hh | hh
    · exact M.le h hh
    · rw [List.mem_singleton.mp hh]
      have e1 := Int.emod_lt_of_pos ((g : Int) - (i : Nat)) (show (0 : Int) < (n : Nat) by omega)
      have e2 : n * u ≤ 8 * 2 := Nat.mul_le_mul hn hu
      omega
theorem Mid.tab {n : Nat} {xs hs : List Nat} (M : Mid n n xs hs) (h0 : 0 < n) (hn : n ≤ 8) : Tab hs := by
  refine ⟨by rw [M.len]; exact h0, by rw [M.len]; omega, fun h hh => by have := M.le h hh; omega, fun i j hi hj e => ?_⟩
  unfold pl at e
  rw [M.len] at hi hj e
  exact M.inj i j hi hj e
def spLTable : Sp := fun vs H Q _ => ∃ (l : Addr) (m : Nat), vs = [.ref l, .int (m : Nat), .int 2] ∧ PenAt H l ∧ 1 ≤ m ∧ m ≤ 8 ∧ ∀ H' p hs, SameBut l H H' → PenAt H' l → H' p = some (.tup (tv hs)) → Tab hs → hs.length ≤ 8 → (∀ h, h ∈ hs → h ≤ 23) → Q (.ref p) H'
section
variable {P : Program} {w : World} {K : PySem.W.Frag} {mg : Str → Option Value} {base : Heap}
theorem scLTable : FnScope ["_law_pen_here", "_law_most", "_law_times", "_law_length", "_law_holds", "_law_left", "_law_place", "_law_hold", "_law_more"] ["_law_pen_here", "_law_most", "_law_times"] (defScope sLTable) := ⟨rfl, rfl, rfl, by decide +kernel, rfl, by decide +kernel, by decide +kernel⟩
theorem PenAt.al {H : Hp} {l p : Addr} {o : HO} (h : PenAt H l) (n : H p = none) : PenAt (upd H p o) l := by
  obtain ⟨x, y, z, e, a, b⟩ := h
  exact ⟨x, y, z, BA.al n e, a, b⟩
theorem PenAt.ne {H : Hp} {l p : Addr} (h : PenAt H l) (n : H p = none) : p ≠ l := by
  obtain ⟨x, y, z, e, a, b⟩ := h
  exact (ne_of_none e n).symm
theorem PenAt.wr {H : Hp} {l p : Addr} {o : HO} (h : PenAt H l) (n : p ≠ l) : PenAt (upd H p o) l := by
  obtain ⟨x, y, z, e, a, b⟩ := h
  exact ⟨x, y, z, by rw [upd_ne n.symm]; exact e, a, b⟩
theorem ok_ltable (D : Df K mg "_law_table" sLTable ["_law_pen_here", "_law_most", "_law_times"]) (B : Bl mg) (GD : Pr P w K mg base "_law_draw" sDraw ["_law_pen_here", "_law_upto"] 1 spDraw) : Pr P w K mg base "_law_table" sLTable ["_law_pen_here", "_law_most", "_law_times"] 2 spLTable := by
  refine D.ok scLTable (fun vs H Q E h => ?_) (fun f cdv A outer s H vs Q E hr h => ?_)
  · obtain ⟨l, m, rfl, _⟩ := h
    rfl
  · obtain ⟨l, m, rfl, hP, m1, m8, q⟩ := h
    refine ⟨_, pss_cons (ps_par (i := 3) (j := 4) rfl scLTable.nd rfl rfl (by decide) rfl rfl (pa_cons (pe_op op_add pe_int (pe_pr GD hr (pa_cons (pv 0) (pa_cons (pv 1) pa_nil)))) (pa_cons (pe_lst pa_nil) pa_nil)) (by rfl))
      (pss_cons (ps_set (i := 5) scLTable.nd rfl (.inl rfl) (pe_listRg rfl rfl B.list (prg_1 rfl B.range (pv 3))))
      (pss_cons (ps_for PassesOwn.never rfl (pi_range1 rfl B.range (pa_cons (pv 3) pa_nil)) (pg_name (i := 6) scLTable.nd rfl (Or.inl rfl))
        (pss_cons (ps_set (i := 7) scLTable.nd rfl (.inl rfl) (pe_op op_mod (pe_op op_sub (pe_bm PySem.F.plainAttrs_list PySem.F.slot_list_pop PySem.F.type_list_pop mt_popAt (pv 5) (pa_cons (pe_pr GD hr (pa_cons (pv 0) (pa_cons (pe_callB call_len_seq rfl B.len PySem.boot_len (pa_cons (pv 5) pa_nil)) pa_nil))) pa_nil)) (pv 6)) (pv 3)))
        (pss_cons (ps_set (i := 8) scLTable.nd rfl (.inl rfl) (pe_op op_add (pv 7) (pe_op op_mul (pv 3) (pe_pr GD hr (pa_cons (pv 0) (pa_cons (pe_op op_add (pv 2) pe_int) pa_nil))))))
        (pss_one (ps_expr (pe_bm PySem.F.plainAttrs_list PySem.F.slot_list_append PySem.F.type_list_append mt_append (pv 4) (pa_cons (pe_ifExp (pt_cmpR op_lt (pv 8) pe_int (nomark _)) (pv 8) (pv 7)) pa_nil)))))))
      (pss_one (ps_ret (pe_callTy call_tuple_of rfl B.tuple (by decide +kernel) (pa_cons (pv 4) pa_nil)))))), ?_⟩
    refine ⟨_, rfl, _, rfl, l, _, rfl, hP, by omega, by omega, fun H1 i1 b1 P1 i10 i11 => ?_⟩
    obtain ⟨n, en⟩ : ∃ n : Nat, 1 + i1 = ((n : Nat) : Int) := ⟨(1 + i1).toNat, by omega⟩
    have n0 : 0 < n := by omega
    have n8 : n ≤ 8 := by omega
    refine ⟨_, _, rfl, rfl, by rw [sizeLine_eq]; exact Nat.zero_le _, fun lh nlh => ?_⟩
    rw [show (fun i j => V.int (i + j)) 1 i1 = V.int ((n : Nat) : Int) from congrArg V.int en]
    refine ⟨_, _, rfl, ?_⟩
    refine ⟨_, rfl, ((n : Nat) : Int), rfl, ⟨by omega, by omega, by omega, by omega, by omega⟩, fun ll nll => ?_⟩
    have e0 : rgV 0 ((n : Nat) : Int) = tv (List.range n) := by
      unfold rgV
      rw [show (((n : Nat) : Int) - 0).toNat = n by omega]
      refine List.map_congr_left fun i _ => ?_
      show V.int (0 + (i : Int)) = V.int (i : Int)
      rw [Int.zero_add]
    rw [e0]
    have P2 : PenAt (upd (upd H1 lh (.lst [])) ll (.lst (tv (List.range n)))) l := (P1.al nlh).al nll
    have d1 : lh ≠ l := P1.ne nlh
    have d2 : ll ≠ l := (P1.al nlh (o := .lst [])).ne nll
    have d3 : lh ≠ ll := ne_of_none upd_same nll
    have h1 : upd (upd H1 lh (.lst [])) ll (.lst (tv (List.range n))) lh = some (.lst (tv [])) := al nll upd_same
    have h2 : upd (upd H1 lh (.lst [])) ll (.lst (tv (List.range n))) ll = some (.lst (tv (List.range n))) := upd_same
    have b2 : SameBut l H (upd (upd H1 lh (.lst [])) ll (.lst (tv (List.range n)))) := b1.trans (SameBut.of ((same_upd nlh).trans (same_upd nll)))
    -- what stood at the start is none of the two lists
    have f1 : ∀ b o, b ≠ l → H b = some o → b ≠ lh := fun b o z e z' => by
      have := b1 _ _ z e
      rw [z', nlh] at this
      cases this
    have f2 : ∀ b o, b ≠ l → H b = some o → b ≠ ll := fun b o z e z' => by
      have := al (o := .lst []) nlh (b1 _ _ z e)
      rw [z', nll] at this
      cases this
    generalize upd (upd H1 lh (.lst [])) ll (.lst (tv (List.range n))) = H2 at P2 h1 h2 b2 ⊢
    refine ⟨_, rfl, _, rfl, by omega, by omega, ?_⟩
    rw [show (((n : Nat) : Int)).toNat = n from Int.toNat_natCast n]
    refine for_range (lo := 0) (n := n) (fun i σ H' => ∃ (o6 o7 o8 : Option V) (xs hs : List Nat), σ = [some (.ref l), some (.int (m : Nat)), some (.int 2), some (.int (n : Nat)), some (.ref lh), some (.ref ll), o6, o7, o8] ∧ SameBut l H H' ∧ PenAt H' l ∧ H' lh = some (.lst (tv hs)) ∧ H' ll = some (.lst (tv xs)) ∧ Mid n i xs hs)
      ⟨none, none, none, _, [], rfl, b2, P2, h1, h2, Mid.start n⟩ ?_ ?_
    · rintro i σ H' hi ⟨o6, o7, o8, xs, hs, rfl, sb, hP', hlh, hll, M⟩
      have hx : 0 < xs.length := by have := M.tot; omega
      have hxl : xs.length ≤ 8 := by have := M.tot; omega
      refine ⟨_, rfl, .inl ⟨rfl, _, SqL.of hll⟩, _, rfl, _, rfl, ll, _, rfl, .inl (SqL.of hll), l, _, rfl, hP', by rw [tv_len]; omega, by rw [tv_len]; omega, fun H3 t b3 P3 t0 t1 => ?_⟩
      rw [tv_len] at t1
      obtain ⟨t, rfl⟩ : ∃ t' : Nat, t = ((t' : Nat) : Int) := ⟨t.toNat, by omega⟩
      have ht : t < xs.length := by omega
      obtain ⟨g, hg⟩ : ∃ g, xs[t]? = some g := ⟨xs[t], List.getElem?_eq_getElem ht⟩
      have hlh3 := b3 _ _ d1 hlh
      have hll3 := b3 _ _ d2 hll
      refine ⟨ll, _, ((t : Nat) : Int), t, .int ((g : Nat) : Int), rfl, rfl, hll3, by omega, by omega, by rw [tv_len]; exact seqIx ht, ?_, ?_⟩
      · rw [List.getElem?_map, hg]
        rfl
      have et : (tv xs).eraseIdx t = tv (xs.eraseIdx t) := by
        simp only [tv, List.eraseIdx_eq_take_drop_succ, List.map_append, List.map_take, List.map_drop]
      rw [et]
      have P4 : PenAt (upd H3 ll (.lst (tv (xs.eraseIdx t)))) l := P3.wr d2
      have hlh4 : upd H3 ll (.lst (tv (xs.eraseIdx t))) lh = some (.lst (tv hs)) := by rw [upd_ne d3]; exact hlh3
      have hll4 : upd H3 ll (.lst (tv (xs.eraseIdx t))) ll = some (.lst (tv (xs.eraseIdx t))) := upd_same
      have sb4 : SameBut l H (upd H3 ll (.lst (tv (xs.eraseIdx t)))) := fun b o z e => by
        rw [upd_ne (f2 b o z e)]
        exact b3 _ _ z (sb _ _ z e)
      generalize upd H3 ll (.lst (tv (xs.eraseIdx t))) = H4 at P4 hlh4 hll4 sb4 ⊢
      refine ⟨_, rfl, _, _, rfl, rfl, _, rfl, _, _, rfl, rfl, (by show (0 : Int) < ((n : Nat) : Int); omega), ?_⟩
      refine ⟨_, rfl, _, rfl, _, rfl, _, rfl, _, _, rfl, rfl, l, _, rfl, P4, by decide, by decide, fun H5 u b5 P5 u0 u1 => ?_⟩
      obtain ⟨u, rfl⟩ : ∃ u' : Nat, u = ((u' : Nat) : Int) := ⟨u.toNat, by omega⟩
      have u2 : u ≤ 2 := by omega
      refine ⟨_, _, rfl, rfl, .inl ⟨by omega, by omega⟩, _, _, rfl, rfl, ?_⟩
      have M2 := M.step hi n8 hg u2
      have hlh5 := b5 _ _ d1 hlh4
      have hll5 := b5 _ _ d2 hll4
      have e1 : (((g : Nat) : Int) - (0 + (i : Nat))) % ((n : Nat) : Int) + ((n : Nat) : Int) * ((u : Nat) : Int) = ((((((g : Int) - (i : Nat)) % (n : Nat)).toNat + n * u : Nat)) : Int) := by
        rw [Int.zero_add, Int.natCast_add, Int.natCast_mul, Int.toNat_of_nonneg (Int.emod_nonneg _ (by omega))]
      have lt61 : (((g : Nat) : Int) - (0 + (i : Nat))) % ((n : Nat) : Int) + ((n : Nat) : Int) * ((u : Nat) : Int) < 61 := by
        rw [e1]
        have := M2.le _ (List.mem_append_right hs (List.mem_singleton.mpr rfl))
        omega
      refine ⟨_, rfl, .inl ⟨rfl, _, SqL.of hlh5⟩, _, rfl, _, _, rfl, rfl, _, rfl, ?_⟩
      have dt : decide ((((g : Nat) : Int) - (0 + (i : Nat))) % ((n : Nat) : Int) + ((n : Nat) : Int) * ((u : Nat) : Int) < 61) = true := decide_eq_true lt61
      show (if decide ((((g : Nat) : Int) - (0 + (i : Nat))) % ((n : Nat) : Int) + ((n : Nat) : Int) * ((u : Nat) : Int) < 61) = true then _ else _)
      rw [dt]
      refine iteT ⟨_, rfl, lh, _, _, rfl, rfl, hlh5, ?_, ?_⟩
      · rw [tv_len, M.len]
        exact small1000 (by omega)
      have ea : tv hs ++ [V.int ((((g : Nat) : Int) - (0 + (i : Nat))) % ((n : Nat) : Int) + ((n : Nat) : Int) * ((u : Nat) : Int))] = tv (hs ++ [(((g : Int) - (i : Nat)) % (n : Nat)).toNat + n * u]) := by
        rw [e1]
        show _ = List.map _ (hs ++ _)
        rw [List.map_append]
        rfl
      refine ⟨some (.int (0 + (i : Nat))), some (.int ((((g : Nat) : Int) - (0 + (i : Nat))) % ((n : Nat) : Int))), some (.int ((((g : Nat) : Int) - (0 + (i : Nat))) % ((n : Nat) : Int) + ((n : Nat) : Int) * ((u : Nat) : Int))), _, _, rfl, fun b o z e => ?_, P5.wr d1, ?_, ?_, M2⟩
      · rw [upd_ne (f1 b o z e)]
        exact b5 _ _ z (sb4 _ _ z e)
      · rw [← ea]
        exact upd_same
      · rw [upd_ne d3.symm]
        exact hll5
    · rintro σ H' ⟨o6, o7, o8, xs, hs, rfl, sb, hP', hlh, hll, M⟩
      refine ⟨_, rfl, lh, _, rfl, .inl ⟨SqL.of hlh, fun p np => ?_⟩⟩
      exact q _ p hs (sb.trans (SameBut.of (same_upd np))) (hP'.al np) upd_same (M.tab n0 n8) (by rw [M.len]; exact n8) M.le
end
end BA
set_option maxHeartbeats 4000000
namespace BA
open PySem PySem.Spec PyProof.Rows PyProof L2
theorem nodup_map {α β : Type} {f : α → β} (hf : ∀ a b, f a = f b → a = b) {l : List α} (h : l.Nodup) : (l.map f).Nodup := List.Pairwise.map f (fun a b n e => n (hf a b e)) h
section
variable {hs : List Nat} (T : Tab hs)
include T
theorem state_mem {n t : Nat} (ht : t < n) (h : ((n : Nat) : Int) ≤ out hs (t : Nat)) : out hs (t : Nat) - (n : Nat) ∈ stateL hs (n : Nat) := by
  have h1 := hold_le T (t : Nat)
  have e : out hs (t : Nat) = (t : Nat) + hold hs (t : Nat) := rfl
  refine List.mem_filter.mpr ⟨List.mem_map.mpr ⟨t + mx hs - n, List.mem_range.mpr (by omega), ?_⟩, decide_eq_true (by omega)⟩
  rw [show ((n : Nat) : Int) - ((mx hs : Nat) : Int) + ((t + mx hs - n : Nat) : Int) = (t : Nat) by omega]
theorem state_perm {n : Nat} (hn : mx hs ≤ n) : ((waits hs n (n : Nat)).map fun (t : Nat) => out hs (t : Nat) - (n : Nat)).Perm (stateL hs (n : Nat)) := by
  refine (List.perm_ext_iff_of_nodup ?_ ?_).mpr fun x => ?_
  · refine nodup_map (fun a b e => ?_) (List.Pairwise.filter _ List.nodup_range)
    have := out_inj T (show out hs (a : Nat) = out hs (b : Nat) by omega)
    omega
  · refine List.Pairwise.filter _ (nodup_map (fun a b e => ?_) List.nodup_range)
    have := out_inj T (show out hs (((n : Nat) : Int) - (mx hs : Nat) + (a : Nat)) = out hs (((n : Nat) : Int) - (mx hs : Nat) + (b : Nat)) by omega)
    omega
  · constructor
    · intro h
      obtain ⟨t, ht, rfl⟩ := List.mem_map.mp h
      have h2 := List.mem_filter.mp ht
      exact state_mem T (List.mem_range.mp h2.1) (of_decide_eq_true h2.2)
    · intro h
      obtain ⟨h1, h2⟩ := List.mem_filter.mp h
      obtain ⟨k, hk, rfl⟩ := List.mem_map.mp h1
      have hk := List.mem_range.mp hk
      have h2 := of_decide_eq_true h2
      have e : ((n - mx hs + k : Nat) : Int) = ((n : Nat) : Int) - (mx hs : Nat) + (k : Nat) := by omega
      refine List.mem_map.mpr ⟨n - mx hs + k, List.mem_filter.mpr ⟨List.mem_range.mpr (by omega), decide_eq_true ?_⟩, ?_⟩
      · rw [e]
        omega
      · rw [e]
theorem state_eq {n : Nat} (hn : mx hs ≤ n) {us ns : List Int} (hu : us.Perm ((waits hs n (n : Nat)).map fun (t : Nat) => out hs (t : Nat))) (su : us.Pairwise (· ≤ ·)) (hp : ns.Perm (stateL hs (n : Nat))) (sn : ns.Pairwise (· ≤ ·)) : (us.map fun (u : Int) => u - (n : Nat)) = ns := by
  refine List.Perm.eq_of_pairwise (le := fun (a b : Int) => a ≤ b) (fun a b _ _ h1 h2 => Int.le_antisymm h1 h2) (List.Pairwise.map _ (fun a b h => by omega) su) sn ?_
  refine ((hu.map fun (u : Int) => u - (n : Nat)).trans ?_).trans hp.symm
  rw [List.map_map]
  exact state_perm T hn
theorem held_len {n : Nat} (hn : mx hs ≤ n) : ((waits hs n (n : Nat)).length : Int) = heldOf hs := by
  rw [← heldBy_eq T hn (n : Nat)]
  unfold waits heldBy
  rw [S_filter (fun (t : Nat) => decide (((n : Nat) : Int) ≤ out hs (t : Nat))) n]
  match n with
  | 0 => rfl
  | m + 1 =>
    rw [S_turn T m]
    refine S_congr _ fun k hk => I_congr ?_
    rw [decide_eq_true_eq, show (((m - k : Nat)) : Int) = ((m + 1 : Nat) : Int) - 1 - (k : Nat) by omega]
/-- what the last n ticks count, behind the first -/
theorem many_window {N : Nat} (hN : mx hs + hs.length ≤ N) : manyOf hs N - manyOf hs (N - hs.length) = overOf hs := by
  unfold manyOf overOf
  have e : N = (N - hs.length) + hs.length := by omega
  have e1 : S N (fun v => if 0 ≤ thing hs v then adds hs (thing hs v) else 0) = S ((N - hs.length) + hs.length) (fun v => if 0 ≤ thing hs v then adds hs (thing hs v) else 0) := by rw [← e]
  rw [e1, S_split, Int.add_comm, Int.add_sub_cancel, ← adds_sum T (Nat.le_refl (mx hs)) ((N - hs.length : Nat) : Int)]
  refine S_congr _ fun i hi => ?_
  have h := thing_ge T ((N - hs.length + i : Nat) : Int)
  rw [if_pos (by omega), show ((N - hs.length + i : Nat) : Int) = (i : Int) + ((N - hs.length : Nat) : Int) by omega]
end
/-- the values 0, 1, .. that the law pushes -/
def iv (n : Nat) : List V := (List.range n).map fun (i : Nat) => V.int (i : Nat)
theorem iv_len {n : Nat} : (iv n).length = n := by unfold iv; rw [List.length_map, List.length_range]
theorem iv_get {n i : Nat} (h : i < n) : (iv n).getD i .non = .int (i : Nat) := by
  unfold iv
  rw [List.getD_eq_getElem?_getD, List.getElem?_map, List.getElem?_range h]
  rfl
theorem iv_more {n : Nat} : iv n ++ [.int (n : Nat)] = iv (n + 1) := by
  unfold iv
  rw [List.range_succ, List.map_append]
  rfl
theorem outV_iv {hs : List Nat} (T : Tab hs) {n v : Nat} (h : v < n) : outV hs (iv n) v = if 0 ≤ thing hs v then .int (thing hs v) else .non := by
  unfold outV
  have l := thing_le T (v : Nat)
  by_cases c : 0 ≤ thing hs v
  · rw [if_pos c, if_pos c, iv_get (by omega), Int.toNat_of_nonneg c]
  · rw [if_neg c, if_neg c]
end BA
set_option maxHeartbeats 4000000
namespace BA
open PySem PySem.Spec PyProof.Rows PyProof L2
/-! ### data compared -/
theorem shp_all {k : Nat} : ∀ {ds : List PyData}, (∀ d, d ∈ ds → PyData.canLay0 d = true ∧ PyData.depth d ≤ k) → PyData.canLayAll0 ds = true ∧ PyData.depthAll ds ≤ k
  | [], _ => ⟨rfl, Nat.zero_le _⟩
  | d :: r, h => by
    obtain ⟨a, b⟩ := shp_all (ds := r) fun d hd => h d (List.mem_cons_of_mem _ hd)
    obtain ⟨c, e⟩ := h d (List.mem_cons_self ..)
    refine ⟨?_, ?_⟩
    · show (PyData.canLay0 d && PyData.canLayAll0 r) = true
      rw [c, a]
      rfl
    · show max (PyData.depth d) (PyData.depthAll r) ≤ k
      exact Nat.max_le.mpr ⟨e, b⟩
theorem shp_tup {k : Nat} {ds : List PyData} (h : ∀ d, d ∈ ds → PyData.canLay0 d = true ∧ PyData.depth d ≤ k) : PyData.canLay0 (.tuple ds) = true ∧ PyData.depth (.tuple ds) ≤ k + 1 := by
  obtain ⟨a, b⟩ := shp_all h
  exact ⟨a, by show PyData.depthAll ds + 1 ≤ k + 1; omega⟩
theorem shp_lst {k : Nat} {ds : List PyData} (h : ∀ d, d ∈ ds → PyData.canLay0 d = true ∧ PyData.depth d ≤ k) : PyData.canLay0 (.list ds) = true ∧ PyData.depth (.list ds) ≤ k + 1 := by
  obtain ⟨a, b⟩ := shp_all h
  exact ⟨a, by show PyData.depthAll ds + 1 ≤ k + 1; omega⟩
theorem shaped_of {k : Nat} {d : PyData} (h : PyData.canLay0 d = true ∧ PyData.depth d ≤ k) (hk : k ≤ 64) : SeqAt.shaped d = true := by
  unfold SeqAt.shaped
  rw [h.1, decide_eq_true (Nat.le_trans h.2 hk)]
  rfl
theorem shp_int (i : Int) : PyData.canLay0 (.int i) = true ∧ PyData.depth (.int i) ≤ 0 := ⟨rfl, Nat.le_refl _⟩
theorem shp_ints (ns : List Int) : ∀ d, d ∈ ns.map PyData.int → PyData.canLay0 d = true ∧ PyData.depth d ≤ 0 := fun d h => by
  obtain ⟨i, _, rfl⟩ := List.mem_map.mp h
  exact shp_int i
theorem dp_all {α : Type} {K : PySem.W.Frag} {H : Hp} {f : α → V} {g : α → PyData} : ∀ {l : List α}, (∀ a, a ∈ l → Dp K H (f a) (g a)) → DpAll K H (l.map f) (l.map g)
  | [], _ => .nil
  | a :: r, h => .cons (h a (List.mem_cons_self ..)) (dp_all (l := r) fun b hb => h b (List.mem_cons_of_mem _ hb))
theorem dp_ints {K : PySem.W.Frag} {H : Hp} (ns : List Int) : DpAll K H (ns.map V.int) (ns.map PyData.int) := dp_all fun i _ => .int i
/-! ### what is held, of rows that got 0, 1, .. -/
theorem HeldAt.ent {hs : List Nat} (T : Tab hs) {H : Hp} {p : Addr} {n : Nat} {us : List Int} {as : List Addr} (h : HeldAt H p hs (iv n) us as) {j : Nat} (hj : j < us.length) :
    ∃ t : Nat, t < n ∧ ((n : Nat) : Int) ≤ out hs (t : Nat) ∧ us.getD j 0 = out hs (t : Nat) ∧ H (as.getD j 0) = some (.tup [.int (out hs (t : Nat) - (n : Nat)), .int (t : Nat)]) := by
  have g : us.getD j 0 = us[j] := by rw [List.getD_eq_getElem?_getD, List.getElem?_eq_getElem hj]; rfl
  have hp := h.perm
  rw [iv_len] at hp
  obtain ⟨t, ht, eo⟩ := List.mem_map.mp (hp.mem_iff.mp (List.getElem_mem hj))
  have h2 := List.mem_filter.mp ht
  have hn := List.mem_range.mp h2.1
  refine ⟨t, hn, of_decide_eq_true h2.2, by rw [g, ← eo], ?_⟩
  have e := h.item j hj
  have et := thing_uniq T eo
  rw [iv_len, g, et, Int.toNat_natCast, iv_get hn, ← eo] at e
  exact e
theorem take_next {α β : Type} {f : α → β} {l : List α} {i : Nat} {x : α} (h : l[i]? = some x) : (l.map f).take (i + 1) = (l.map f).take i ++ [f x] := by
  rw [List.take_add_one, List.getElem?_map, h]
  rfl
section
variable {X : Cx}
theorem op_notIn_K (K : PySem.W.Frag) (h : X.K = K := by rfl) : OpR X (compareOp .NotIn) (rIn K true) := h ▸ op_notIn_seq
end
theorem inV_ints {z : Int} {ns : List Int} (h : z ∈ ns) : inV (.int z) (ns.map V.int) = true := by
  unfold inV
  rw [List.any_map, List.any_eq_true]
  exact ⟨z, h, by show (z == z) = true; simp⟩
/-- all that the law needs of a class of rows -/
structure RowK (P : Program) (w : World) (K : PySem.W.Frag) (mg : Str → Option Value) (base : Heap) (C Cs : Addr) (c : Bool) : Prop where
  rc : RowC K C
  push : ∃ f, Meth K C "push" f ∧ FnR P w K mg base CX0 6 f (spPush K C Cs c)
  held : ∃ p g fd, PropOf K C "held" p g ∧ FnOk P w K mg base CX0 3 g fd ["self"] (spRHeld C Cs c) ∧ Binds K fd ["self"] []
  make : ∃ f fd, Mk K C f ∧ FnOk P w K mg base CX0 5 f fd ["self", "table"] (spRowI K C Cs c) ∧ Binds K fd ["self", "table"] []
structure ItemK (P : Program) (w : World) (K : PySem.W.Frag) (mg : Str → Option Value) (base : Heap) (C Cs : Addr) (c : Bool) : Prop where
  ex : ∃ g fd, GetIt K C g ∧ FnOk P w K mg base CX0 3 g fd ["self", "tick"] (spItem C Cs c) ∧ Binds K fd ["self", "tick"] []
structure ManyK (P : Program) (w : World) (K : PySem.W.Frag) (mg : Str → Option Value) (base : Heap) (C Cs : Addr) : Prop where
  ex : ∃ p g fd, PropOf K C "overtakings" p g ∧ FnOk P w K mg base CX0 1 g fd ["self"] (spMany C Cs) ∧ Binds K fd ["self"] []
def spTickRight (K : PySem.W.Frag) (C Cs : Addr) : Sp := fun vs H Q _ => ∃ (r L a : Addr) (hs : List Nat) (n : Nat), vs = [.ref r, .ref a, .int (n : Nat)] ∧ RowAt C Cs false H r L a hs (iv n) ∧ SqT K H a (tv hs) ∧ Tab hs ∧ 0 < n ∧ n ≤ 1000 ∧ ∀ H', Same H H' → Q (.bl true) H'
section
variable {P : Program} {w : World} {K : PySem.W.Frag} {mg : Str → Option Value} {base : Heap}
theorem scTickRight : FnScope ["_law_box", "_law_table_here", "_law_tick", "_law_due", "_law_times", "_law_ticks", "_law_thing"] ["_law_box", "_law_table_here", "_law_tick"] (defScope sTickRight) := ⟨rfl, rfl, rfl, by decide +kernel, rfl, by decide +kernel, by decide +kernel⟩
theorem ok_tickRight {C Cs : Addr} (D : Df K mg "_law_tick_right" sTickRight ["_law_box", "_law_table_here", "_law_tick"]) (B : Bl mg) (R : RowK P w K mg base C Cs false) (I : ItemK P w K mg base C Cs false)
    (GTh : Pr P w K mg base "thing_at" sThingAt ["table", "tick"] 5 (spThingAt K)) (GO : Pr P w K mg base "out_at" sOutAt ["table", "thing"] 5 (spOutAt K)) (GD : Pr P w K mg base "delay" sDelay ["table"] 5 (spDelay K))
    (GS : Pr P w K mg base "state_at" sStateAt ["table", "tick"] 5 (spState K)) (GH : Pr P w K mg base "held" sHeld ["table"] 5 (spHeld K)) :
    Pr P w K mg base "_law_tick_right" sTickRight ["_law_box", "_law_table_here", "_law_tick"] 6 (spTickRight K C Cs) := by
  obtain ⟨gI, fdI, mI, FI, bI⟩ := I.ex
  obtain ⟨pH, gH, fdH, mH, FH, bH⟩ := R.held
  refine D.ok scTickRight (fun vs H Q E h => ?_) (fun f cdv A outer s H vs Q E hr h => ?_)
  · obtain ⟨r, L, a, hs, n, rfl, _⟩ := h
    rfl
  · obtain ⟨r, L, a, hs, n, rfl, hR, hT, T, n0, n1, q⟩ := h
    refine ⟨_, pss_cons (ps_set (i := 3) scTickRight.nd rfl (.inl rfl) (pe_pr GTh hr (pa_cons (pv 1) (pa_cons (pe_op op_sub (pv 2) pe_int) pa_nil))))
      (C8.pss_cut (ps_if (PW.pt (pw_or (pt_cmpR op_ne (pe_getit (pv 0) (pe_op op_sub (pv 2) pe_int) mI FI (hr.mono (by decide)) bI) (pe_ifExp (pt_cmpR op_ge (pv 3) pe_int (nomark _)) (pv 3) pe_non) (nomark _))
          (pw_or1 (PW.pt (pw_and (pt_cmpR op_ge (pv 3) pe_int (nomark _)) (pw_and1 (pt_cmpR op_ne (pe_pr GO hr (pa_cons (pv 1) (pa_cons (pv 3) pa_nil))) (pe_op op_sub (pv 2) pe_int) (nomark _)))))))) pss_never pss_nil)
      (pss_cons (ps_set (i := 4) scTickRight.nd rfl (.inl rfl) (pe_callTy call_tuple_of (by rfl) B.tuple (by decide +kernel) (pa_cons (pe_lc (own := [("_law_ticks", 5), ("_law_thing", 6)]) (tt := tYes) rfl scTickRight.nd (pi_tup (pe_prop (pv 0) R.rc.cl mH FH (hr.mono (by decide)) bH .nil pass0 rfl))
          (blkOk_by (N := ["_law_box", "_law_table_here", "_law_tick", "_law_due", "_law_times", "_law_ticks", "_law_thing"]) (sc := defScope sTickRight) (by decide +kernel))
          (fun _ _ _ _ _ => pg_tupK K 2 rfl (pgs_cons (pg_name (i := 5) scTickRight.nd rfl (Or.inl rfl) (Or.inr rfl)) (pgs_cons (pg_name (i := 6) scTickRight.nd rfl (Or.inl rfl) (Or.inr rfl)) pgs_nil)))
          (fun _ _ _ _ _ => pts_nil) (fun _ _ _ _ _ => pv 5)) pa_nil)))
      (pss_cons (ps_if (pt_cmpR (op_neD hr.units) (pe_lc (own := [("_law_ticks", 5), ("_law_thing", 6)]) rfl scTickRight.nd (pi_tup (pe_prop (pv 0) R.rc.cl mH FH (hr.mono (by decide)) bH .nil pass0 rfl))
          (blkOk_by (N := ["_law_box", "_law_table_here", "_law_tick", "_law_due", "_law_times", "_law_ticks", "_law_thing"]) (sc := defScope sTickRight) (by decide +kernel))
          (fun _ _ _ _ _ => pg_tupK K 2 rfl (pgs_cons (pg_name (i := 5) scTickRight.nd rfl (Or.inl rfl) (Or.inr rfl)) (pgs_cons (pg_name (i := 6) scTickRight.nd rfl (Or.inl rfl) (Or.inr rfl)) pgs_nil)))
          (fun _ _ _ _ _ => pts_one (pt_cmpR op_ne (pe_pr GO hr (pa_cons (pv 1) (pa_cons (pv 6) pa_nil))) (pe_op op_add (pv 2) (pv 5)) (nomark _))) (fun _ _ _ _ _ => pe_int)) (pe_lst pa_nil) (nomark _)) pss_never pss_nil)
      (pss_cons (ps_if (pt_cmpR op_lt (pv 2) (pe_pr GD hr (pa_cons (pv 1) pa_nil)) (nomark _))
          (pss_one (ps_ret (pe_cmpR (op_eqD hr.units) (pe_lc (own := [("_law_ticks", 5)]) (g := gName 5) rfl scTickRight.nd (pi_tup (pv 4))
            (blkOk_by (N := ["_law_box", "_law_table_here", "_law_tick", "_law_due", "_law_times", "_law_ticks", "_law_thing"]) (sc := defScope sTickRight) (by decide +kernel))
            (fun _ _ _ _ _ => pg_name (i := 5) scTickRight.nd rfl (Or.inl rfl)) (fun _ _ _ _ _ => pts_one (pt_cmpR (op_notIn_K K) (pv 5) (pe_pr GS hr (pa_cons (pv 1) (pa_cons (pv 2) pa_nil))) rfl)) (fun _ _ _ _ _ => pe_int)) (pe_lst pa_nil) (nomark _)))) pss_nil)
      (pss_one (ps_ret (pe_and (pe_cmpR op_eq (pe_callB call_len_seq rfl B.len PySem.boot_len (pa_cons (pv 4) pa_nil)) (pe_pr GH hr (pa_cons (pv 1) pa_nil)) (nomark _))
          (pe_one (pe_cmpR (op_eqD hr.units) (pv 4) (pe_pr GS hr (pa_cons (pv 1) (pa_cons (pv 2) pa_nil))) (nomark _)))))))))), ?_⟩
    obtain ⟨m, rfl⟩ : ∃ m, n = m + 1 := ⟨n - 1, by omega⟩
    have em : ((m + 1 : Nat) : Int) - 1 = ((m : Nat) : Int) := by omega
    -- due = thing_at(table, tick - 1)
    refine ⟨_, rfl, _, rfl, _, _, rfl, rfl, a, hs, ((m : Nat) : Int), congrArg (fun z => [V.ref a, V.int z]) em, hT, T, fun H1 s1 => ?_⟩
    have hR1 := hR.keep s1
    have hT1 := Same.seqT s1 hT
    have hR0 := hR
    obtain ⟨dr, sts, st, hr0, _⟩ := hR0
    have hr1 := s1 _ _ hr0
    refine ⟨fun σ' H' => σ' = [some (.ref r), some (.ref a), some (.int ((m + 1 : Nat) : Int)), some (.int (thing hs ((m : Nat) : Int))), none, none, none] ∧ Same H1 H', ?_, ?_⟩
    · -- box[tick - 1]
      refine ⟨_, rfl, _, rfl, _, _, rfl, rfl, r, dr, _, rfl, hr1, r, L, a, hs, iv (m + 1), m, congrArg (fun z => [V.ref r, V.int z]) em, hR1, by rw [iv_len]; omega, ?_⟩
      rw [outV_iv T (Nat.lt_succ_self m)]
      by_cases c : 0 ≤ thing hs (m : Nat)
      · rw [if_pos c]
        refine ⟨_, rfl, _, _, rfl, rfl, _, rfl, ?_⟩
        rw [show decide (thing hs ((m : Nat) : Int) ≥ 0) = true from decide_eq_true c]
        refine iteT ⟨_, rfl, rfl, false, by simp, iteF ⟨_, rfl, _, _, rfl, rfl, _, rfl, ?_⟩⟩
        rw [show decide (thing hs ((m : Nat) : Int) ≥ 0) = true from decide_eq_true c]
        refine iteT ⟨_, rfl, _, rfl, a, hs, _, rfl, hT1, T, fun H2 s2 => ⟨_, rfl, _, _, rfl, rfl, rfl, false, ?_, iteF ⟨rfl, s2⟩⟩⟩
        rw [out_thing T, decide_eq_true (show V.int ((m : Nat) : Int) = V.int (((m + 1 : Nat) : Int) - 1) by rw [em])]
        rfl
      · rw [if_neg c]
        refine ⟨_, rfl, _, _, rfl, rfl, _, rfl, ?_⟩
        rw [show decide (thing hs ((m : Nat) : Int) ≥ 0) = false from decide_eq_false c]
        refine iteF ⟨rfl, false, by simp, iteF ⟨_, rfl, _, _, rfl, rfl, _, rfl, ?_⟩⟩
        rw [show decide (thing hs ((m : Nat) : Int) ≥ 0) = false from decide_eq_false c]
        exact iteF (iteF ⟨rfl, fun _ _ e => e⟩)
    rintro σ2 H2 ⟨rfl, s2⟩
    have s12 := s1.trans s2
    -- times
    refine ⟨_, rfl, r, dr, _, rfl, s2 _ _ hr1, r, L, a, hs, _, rfl, hR.keep s12, T, by rw [iv_len]; exact n1, fun H3 ph us as s3 hd => ⟨ph, rfl, ⟨_, SqT.of hd.at_⟩, fun D1 nD1 => ?_⟩⟩
    have al' : as.length = us.length := hd.len
    have ul : us.length ≤ 60 := by
      rw [hd.perm.length_eq, List.length_map]
      exact waits_few T _
    have gA : ∀ {i : Nat} {x : V}, (as.map V.ref)[i]? = some x → i < us.length ∧ x = .ref (as.getD i 0) := fun {i x} hx => by
      rw [List.getElem?_map] at hx
      cases ea : as[i]? with
      | none => rw [ea] at hx; cases hx
      | some q' =>
        rw [ea] at hx
        refine ⟨by rw [← al']; exact (List.getElem?_eq_some_iff.mp ea).1, ?_⟩
        rw [List.getD_eq_getElem?_getD, ea]
        exact (Option.some.inj hx).symm
    refine lc_tup (K := K) (a := ph) (xs := as.map V.ref) (fun i H' => Same H3 H' ∧ H' D1 = some (.lst (((us.map fun (u : Int) => u - ((m + 1 : Nat) : Int)).take i).map V.int))) ⟨same_upd nD1, upd_same⟩ (fun i H' _ ⟨sm, _⟩ => SqT.of (sm _ _ hd.at_)) ?_ ?_
    · rintro i x H' hx ⟨sm, hD⟩
      obtain ⟨hi, rfl⟩ := gA hx
      obtain ⟨t, t0, t1, gu, hq⟩ := hd.ent T hi
      refine ⟨_, _, rfl, SqT.of (sm _ _ hq), rfl, _, _, rfl, _, _, rfl, rfl, rfl, ?_⟩
      refine ⟨_, rfl, _, hD, ?_, fun b o e => ?_, ?_⟩
      · rw [List.length_map]
        exact small1000 (Nat.le_trans (List.length_take_le' _ _) (by rw [List.length_map]; omega))
      · have nb : b ≠ D1 := fun z => by rw [z, nD1] at e; cases e
        rw [upd_ne nb]
        exact sm _ _ e
      · have gu' : us[i]? = some (out hs (t : Nat)) := by rw [List.getElem?_eq_getElem hi, ← gu, List.getD_eq_getElem?_getD, List.getElem?_eq_getElem hi]; rfl
        rw [upd_same, take_next gu', List.map_append]
        rfl
    · rintro H4 ⟨s4, hD⟩
      rw [List.length_map, al', List.take_of_length_le (by rw [List.length_map]; exact Nat.le_refl _)] at hD
      refine ⟨D1, _, rfl, .inl ⟨SqL.of hD, fun pt npt => ?_⟩⟩
      have hpt := upd_same (H := H4) (a := pt) (o := .tup ((us.map fun (u : Int) => u - ((m + 1 : Nat) : Int)).map V.int))
      have s5 : Same H (upd H4 pt (.tup ((us.map fun (u : Int) => u - ((m + 1 : Nat) : Int)).map V.int))) := (s12.trans (s3.trans s4)).trans (same_upd npt)
      generalize upd H4 pt (.tup ((us.map fun (u : Int) => u - ((m + 1 : Nat) : Int)).map V.int)) = H5 at hpt s5 ⊢
      have perm := hd.perm
      have asc := hd.asc
      clear hd hD gA al'
      -- the things held come out when they are said to
      refine ⟨_, rfl, r, dr, _, rfl, s5 _ _ hr0, r, L, a, hs, _, rfl, hR.keep s5, T, by rw [iv_len]; exact n1, fun H6 ph2 us2 as2 s6 hd2 => ⟨ph2, rfl, ⟨_, SqT.of hd2.at_⟩, fun D2 nD2 => ?_⟩⟩
      have al2 : as2.length = us2.length := hd2.len
      have gA2 : ∀ {i : Nat} {x : V}, (as2.map V.ref)[i]? = some x → i < us2.length ∧ x = .ref (as2.getD i 0) := fun {i x} hx => by
        rw [List.getElem?_map] at hx
        cases ea : as2[i]? with
        | none => rw [ea] at hx; cases hx
        | some q' =>
          rw [ea] at hx
          refine ⟨by rw [← al2]; exact (List.getElem?_eq_some_iff.mp ea).1, ?_⟩
          rw [List.getD_eq_getElem?_getD, ea]
          exact (Option.some.inj hx).symm
      refine lc_tup (K := K) (a := ph2) (xs := as2.map V.ref) (fun i H' => Same H6 H' ∧ H' D2 = some (.lst [])) ⟨same_upd nD2, upd_same⟩ (fun i H' _ ⟨sm, _⟩ => SqT.of (sm _ _ hd2.at_)) ?_ ?_
      · rintro i x H' hx ⟨sm, hD⟩
        obtain ⟨hi, rfl⟩ := gA2 hx
        obtain ⟨t, t0, t1, gu, hq⟩ := hd2.ent T hi
        refine ⟨_, _, rfl, SqT.of (sm _ _ hq), rfl, _, _, rfl, _, _, rfl, rfl, rfl, ?_⟩
        refine ⟨_, rfl, _, rfl, a, hs, ((t : Nat) : Int), rfl, Same.seqT (s5.trans (s6.trans sm)) hT, T, fun H7 s7 => ⟨_, rfl, _, rfl, _, _, rfl, rfl, rfl, false, ?_, iteF ⟨sm.trans s7, s7 _ _ hD⟩⟩⟩
        rw [decide_eq_true (show V.int (out hs (t : Nat)) = V.int (((m + 1 : Nat) : Int) + (out hs (t : Nat) - ((m + 1 : Nat) : Int))) by rw [show ((m + 1 : Nat) : Int) + (out hs (t : Nat) - ((m + 1 : Nat) : Int)) = out hs (t : Nat) by omega])]
        rfl
      · rintro H7 ⟨s7, hD⟩
        refine ⟨by rw [sizeLine_eq]; exact Nat.zero_le _, fun e ne => ⟨.list [], .list [], Dp.lst (SqL.of (al ne hD)) .nil, Dp.lst (SqL.of upd_same) .nil, rfl, rfl, false, rfl, iteF ?_⟩⟩
        have s8 : Same H (upd H7 e (.lst [])) := s5.trans (s6.trans (s7.trans (same_upd ne)))
        have hpt8 := al ne (o := .lst []) (s7 _ _ (s6 _ _ hpt))
        generalize upd H7 e (.lst []) = H8 at s8 hpt8 ⊢
        refine ⟨_, rfl, _, rfl, a, hs, rfl, Same.seqT s8 hT, T, fun H9 s9 => ⟨_, _, rfl, rfl, _, rfl, ?_⟩⟩
        by_cases c : ((m + 1 : Nat) : Int) < ((mx hs : Nat) : Int)
        · rw [decide_eq_true c]
          refine iteT ⟨_, rfl, pt, rfl, ⟨_, SqT.of (s9 _ _ hpt8)⟩, fun D3 nD3 => ?_⟩
          refine lc_tup (K := K) (a := pt) (xs := (us.map fun (u : Int) => u - ((m + 1 : Nat) : Int)).map V.int) (fun i H' => Same H9 H' ∧ H' D3 = some (.lst [])) ⟨same_upd nD3, upd_same⟩ (fun i H' _ ⟨sm, _⟩ => SqT.of (sm _ _ (s9 _ _ hpt8))) ?_ ?_
          · rintro i x H' hx ⟨sm, hD⟩
            rw [List.getElem?_map, List.getElem?_map] at hx
            cases eu : us[i]? with
            | none => rw [eu] at hx; cases hx
            | some u =>
              rw [eu] at hx
              obtain rfl := Option.some.inj hx
              obtain ⟨t, ht, eo⟩ := List.mem_map.mp (perm.mem_iff.mp (List.mem_of_getElem? eu))
              rw [iv_len] at ht
              have h2 := List.mem_filter.mp ht
              have mem := state_mem T (List.mem_range.mp h2.1) (of_decide_eq_true h2.2)
              rw [eo] at mem
              refine ⟨rfl, _, rfl, _, rfl, _, rfl, a, hs, _, rfl, Same.seqT (s8.trans (s9.trans sm)) hT, T, by omega, by omega, fun H10 p10 ns s10 hp10 _ pm10 => ⟨p10, _, rfl, .inr (SqT.of hp10), rfl, ?_, false, ?_, iteF ⟨sm.trans s10, s10 _ _ hD⟩⟩⟩
              · rw [List.all_map, List.all_eq_true]
                exact fun _ _ => rfl
              · rw [inV_ints (pm10.mem_iff.mpr mem)]
                rfl
          · rintro H10 ⟨s10, hD⟩
            refine ⟨by rw [sizeLine_eq]; exact Nat.zero_le _, fun e2 ne2 => ⟨.list [], .list [], Dp.lst (SqL.of (al ne2 hD)) .nil, Dp.lst (SqL.of upd_same) .nil, rfl, rfl, ?_⟩⟩
            exact q _ (s8.trans (s9.trans (s10.trans (same_upd ne2))))
        · rw [decide_eq_false c]
          have hm : mx hs ≤ m + 1 := by omega
          refine iteF ⟨_, rfl, pt, _, rfl, .inr (SqT.of (s9 _ _ hpt8)), _, rfl, a, hs, rfl, Same.seqT (s8.trans s9) hT, T, fun H10 s10 => ⟨rfl, true, ?_, iteT ⟨_, rfl, _, rfl, _, rfl, a, hs, _, rfl, Same.seqT (s8.trans (s9.trans s10)) hT, T, by omega, by omega, fun H11 p11 ns s11 hp11 asc11 pm11 => ?_⟩⟩⟩
          · rw [List.length_map, List.length_map, perm.length_eq, List.length_map, iv_len, held_len T hm, decide_eq_true rfl]
          · rw [iv_len] at perm
            have e := state_eq T hm perm asc pm11 asc11
            rw [e] at hpt8
            refine ⟨.tuple (ns.map PyData.int), .tuple (ns.map PyData.int), Dp.tup (SqT.of (s11 _ _ (s10 _ _ (s9 _ _ hpt8)))) (dp_ints ns), Dp.tup (SqT.of hp11) (dp_ints ns), shaped_of (shp_tup (shp_ints ns)) (by decide), shaped_of (shp_tup (shp_ints ns)) (by decide), ?_⟩
            rw [SeqAt.eqv_refl _ (shp_tup (shp_ints ns)).1]
            exact q _ (s8.trans (s9.trans (s10.trans s11)))
end
end BA
set_option maxHeartbeats 4000000
namespace BA
open PySem PySem.Spec PyProof.Rows PyProof L2
/-- one of two readings: a call whose receiver is of one class or of another -/
def tEith (t1 t2 : TE) : TE := fun σ H Q => t1 σ H Q ∨ t2 σ H Q
theorem pe_or2 {X : Cx} {e : Expr} {t1 t2 : TE} (h1 : PE X e t1) (h2 : PE X e t2) : PE X e (tEith t1 t2) :=
  ⟨fun pins s σ H Q I h => h.elim (h1.run pins s σ H Q I) (h2.run pins s σ H Q I)⟩
theorem atI_neg {α : Type} {xs : List α} {i : Int} {j : Nat} {v : α} (h : xs[j]? = some v) (e : i + (xs.length : Nat) = (j : Nat)) (n : i < 0) : atI xs i = some v := by
  unfold atI ixN
  rw [if_neg (by omega), if_pos (by omega), e, Int.toNat_natCast]
  exact h
def Dm (Z H : Hp) : Prop := ∀ b, H b = none → Z b = none
theorem Dm.but {Z H H' : Hp} {l : Addr} {o : HO} (d : Dm Z H) (s : SameBut l H H') (h : H' l = some o) : Dm Z H' := fun b e => by
  cases hb : H b with
  | none => exact d b hb
  | some x =>
    by_cases c : b = l
    · rw [c, h] at e
      cases e
    · rw [s b x c hb] at e
      cases e
theorem Dm.same {Z H H' : Hp} (d : Dm Z H) (s : Same H H') : Dm Z H' := fun b e => d b (s.free e)
theorem SameBut.seqT {K : PySem.W.Frag} {H H' : Hp} {a l : Addr} {xs ys : List V} (e : SameBut l H H') (hl : H l = some (.lst ys)) (h : SqT K H a xs) : SqT K H' a xs := by
  rcases h with (h | ⟨o, h⟩) | h
  · exact .inl (.inl (e _ _ (ne_of h hl (by intro z; cases z)) h))
  · exact .inl (.inr ⟨o, e _ _ (ne_of h hl (by intro z; cases z)) h⟩)
  · exact .inr h
/-- three rows, and how many values each got -/
structure Bx (K : PySem.W.Frag) (C1 C2 C3 Cs : Addr) (Z H : Hp) (r1 L1 r2 L2 r3 L3 a : Addr) (hs : List Nat) (n1 n2 n3 : Nat) : Prop where
  t : SqT K H a (tv hs)
  b1 : RowZ Z C1 Cs false H r1 L1 a hs (iv n1)
  b2 : RowZ Z C2 Cs true H r2 L2 a hs (iv n2)
  b3 : RowZ Z C3 Cs true H r3 L3 a hs (iv n3)
  d12 : L1 ≠ L2
  d13 : L1 ≠ L3
  d23 : L2 ≠ L3
  z1 : Z L1 = some (.lst [])
  z2 : Z L2 = some (.lst [])
  z3 : Z L3 = some (.lst [])
  dm : Dm Z H
section
variable {K : PySem.W.Frag} {C1 C2 C3 Cs : Addr} {Z H H' : Hp} {r1 L1 r2 L2 r3 L3 a l : Addr} {hs : List Nat} {n1 n2 n3 : Nat}
theorem RowZ.lst {c : Bool} {C r L : Addr} {vals : List V} (h : RowZ Z C Cs c H r L a hs vals) : ∃ ys, H L = some (.lst ys) := by
  obtain ⟨dx, sts, st, h1, h2, h3⟩ := h
  exact ⟨_, h2⟩
theorem RowZ.ins {c : Bool} {C r L : Addr} {vals : List V} (h : RowZ Z C Cs c H r L a hs vals) : ∃ dx, H r = some (.ins C dx [("stands", .ref L)]) := by
  obtain ⟨dx, sts, st, h1, h2, h3⟩ := h
  exact ⟨_, h1⟩
theorem Bx.keep (b : Bx K C1 C2 C3 Cs Z H r1 L1 r2 L2 r3 L3 a hs n1 n2 n3) (s : Same H H') : Bx K C1 C2 C3 Cs Z H' r1 L1 r2 L2 r3 L3 a hs n1 n2 n3 :=
  ⟨Same.seqT s b.t, b.b1.keep s, b.b2.keep s, b.b3.keep s, b.d12, b.d13, b.d23, b.z1, b.z2, b.z3, b.dm.same s⟩
theorem Bx.push1 (b : Bx K C1 C2 C3 Cs Z H r1 L1 r2 L2 r3 L3 a hs n1 n2 n3) (s : SameBut L1 H H') {m : Nat} (r : RowZ Z C1 Cs false H' r1 L1 a hs (iv m)) : Bx K C1 C2 C3 Cs Z H' r1 L1 r2 L2 r3 L3 a hs m n2 n3 := by
  obtain ⟨ys, h⟩ := b.b1.lst
  obtain ⟨zs, h'⟩ := r.lst
  exact ⟨s.seqT h b.t, r, b.b2.but b.z1 h b.d12.symm s, b.b3.but b.z1 h b.d13.symm s, b.d12, b.d13, b.d23, b.z1, b.z2, b.z3, b.dm.but s h'⟩
theorem Bx.push2 (b : Bx K C1 C2 C3 Cs Z H r1 L1 r2 L2 r3 L3 a hs n1 n2 n3) (s : SameBut L2 H H') {m : Nat} (r : RowZ Z C2 Cs true H' r2 L2 a hs (iv m)) : Bx K C1 C2 C3 Cs Z H' r1 L1 r2 L2 r3 L3 a hs n1 m n3 := by
  obtain ⟨ys, h⟩ := b.b2.lst
  obtain ⟨zs, h'⟩ := r.lst
  exact ⟨s.seqT h b.t, b.b1.but b.z2 h b.d12 s, r, b.b3.but b.z2 h b.d23.symm s, b.d12, b.d13, b.d23, b.z1, b.z2, b.z3, b.dm.but s h'⟩
theorem Bx.push3 (b : Bx K C1 C2 C3 Cs Z H r1 L1 r2 L2 r3 L3 a hs n1 n2 n3) (s : SameBut L3 H H') {m : Nat} (r : RowZ Z C3 Cs true H' r3 L3 a hs (iv m)) : Bx K C1 C2 C3 Cs Z H' r1 L1 r2 L2 r3 L3 a hs n1 n2 m := by
  obtain ⟨ys, h⟩ := b.b3.lst
  obtain ⟨zs, h'⟩ := r.lst
  exact ⟨s.seqT h b.t, b.b1.but b.z3 h b.d13 s, b.b2.but b.z3 h b.d23 s, r, b.d12, b.d13, b.d23, b.z1, b.z2, b.z3, b.dm.but s h'⟩
/-- a named list, none of the rows', is written -/
theorem Bx.list (b : Bx K C1 C2 C3 Cs Z H r1 L1 r2 L2 r3 L3 a hs n1 n2 n3) {o : HO} {ys zs : List V} (z : Z l = some o) (hl : H l = some (.lst ys)) (e1 : L1 ≠ l) (e2 : L2 ≠ l) (e3 : L3 ≠ l) : Bx K C1 C2 C3 Cs Z (upd H l (.lst zs)) r1 L1 r2 L2 r3 L3 a hs n1 n2 n3 := by
  have s := SameBut.upd (l := l) (H := H) (o := .lst zs)
  exact ⟨s.seqT hl b.t, b.b1.but z hl e1 s, b.b2.but z hl e2 s, b.b3.but z hl e3 s, b.d12, b.d13, b.d23, b.z1, b.z2, b.z3, b.dm.but s upd_same⟩
/-- a new list is named -/
theorem Bx.more (b : Bx K C1 C2 C3 Cs Z H r1 L1 r2 L2 r3 L3 a hs n1 n2 n3) {ys : List V} (nl : H l = none) : Bx K C1 C2 C3 Cs (upd Z l (.lst [])) (upd H l (.lst ys)) r1 L1 r2 L2 r3 L3 a hs n1 n2 n3 := by
  obtain ⟨y1, h1⟩ := b.b1.lst
  obtain ⟨y2, h2⟩ := b.b2.lst
  obtain ⟨y3, h3⟩ := b.b3.lst
  refine ⟨Same.seqT (same_upd nl) b.t, (b.b1.more nl).keep (same_upd nl), (b.b2.more nl).keep (same_upd nl), (b.b3.more nl).keep (same_upd nl), b.d12, b.d13, b.d23, ?_, ?_, ?_, fun c e => ?_⟩
  · rw [upd_ne (ne_of_none h1 nl)]; exact b.z1
  · rw [upd_ne (ne_of_none h2 nl)]; exact b.z2
  · rw [upd_ne (ne_of_none h3 nl)]; exact b.z3
  · rw [upd_ne (ne_al e)]
    exact b.dm c (free_al e)
theorem Bx.less (b : Bx K C1 C2 C3 Cs (upd Z l (.lst [])) H r1 L1 r2 L2 r3 L3 a hs n1 n2 n3) (e1 : L1 ≠ l) (e2 : L2 ≠ l) (e3 : L3 ≠ l) : Bx K C1 C2 C3 Cs Z H r1 L1 r2 L2 r3 L3 a hs n1 n2 n3 := by
  have d : ∀ b, upd Z l (.lst []) b = none → Z b = none := fun b e => free_al e
  have f : ∀ {b : Addr} {o : HO}, b ≠ l → upd Z l (.lst []) b = some o → Z b = some o := fun n e => by rw [upd_ne n] at e; exact e
  exact ⟨b.t, b.b1.less d, b.b2.less d, b.b3.less d, b.d12, b.d13, b.d23, f e1 b.z1, f e2 b.z2, f e3 b.z3, fun c e => d c (b.dm c e)⟩
end
theorem dp_idx {K : PySem.W.Frag} {H : Hp} {g : Int → PyData} : ∀ {us : List Int} {as : List Addr}, as.length = us.length → (∀ j, j < us.length → Dp K H (.ref (as.getD j 0)) (g (us.getD j 0))) → DpAll K H (as.map V.ref) (us.map g)
  | [], [], _, _ => .nil
  | u :: us, p :: as, h, f => .cons (f 0 (Nat.succ_pos _)) (dp_idx (us := us) (as := as) (Nat.succ.inj h) fun j hj => f (j + 1) (Nat.succ_lt_succ hj))
  | [], _ :: _, h, _ => nomatch h
  | _ :: _, [], h, _ => nomatch h
/-- what is held, as data -/
noncomputable def heldD (hs : List Nat) (n : Nat) (us : List Int) : PyData := .tuple (us.map fun (u : Int) => .tuple [.int (u - (n : Nat)), .int (thing hs u)])
theorem HeldAt.dp {K : PySem.W.Frag} {hs : List Nat} (T : Tab hs) {H : Hp} {p : Addr} {n : Nat} {us : List Int} {as : List Addr} (h : HeldAt H p hs (iv n) us as) : Dp K H (.ref p) (heldD hs n us) := by
  refine .tup (SqT.of h.at_) (dp_idx h.len fun j hj => ?_)
  obtain ⟨t, t0, t1, e, q⟩ := h.ent T hj
  rw [e, thing_out T]
  exact .tup (SqT.of q) (.cons (.int _) (.cons (.int _) .nil))
theorem heldD_shp {hs : List Nat} {n : Nat} {us : List Int} : PyData.canLay0 (heldD hs n us) = true ∧ PyData.depth (heldD hs n us) ≤ 2 := by
  refine shp_tup (k := 1) fun d hd => ?_
  obtain ⟨u, _, rfl⟩ := List.mem_map.mp hd
  refine shp_tup (k := 0) fun d hd => ?_
  rcases List.mem_cons.mp hd with rfl | hd
  · exact shp_int _
  · rw [List.mem_singleton.mp hd]
    exact shp_int _
theorem HeldAt.uniq {hs : List Nat} {H H' : Hp} {p p' : Addr} {n : Nat} {us us' : List Int} {as as' : List Addr} (h : HeldAt H p hs (iv n) us as) (h' : HeldAt H' p' hs (iv n) us' as') : us = us' :=
  List.Perm.eq_of_pairwise (le := fun (a b : Int) => a ≤ b) (fun a b _ _ h1 h2 => Int.le_antisymm h1 h2) h.asc h'.asc (h.perm.trans h'.perm.symm)
/-- what comes out is an int or nothing -/
theorem outV_data {hs : List Nat} (T : Tab hs) {n v : Nat} (h : v < n) : ∃ d : PyData, (∀ (K : PySem.W.Frag) (H : Hp), Dp K H (outV hs (iv n) v) d) ∧ PyData.canLay0 d = true ∧ PyData.depth d ≤ 0 := by
  rw [outV_iv T h]
  by_cases c : 0 ≤ thing hs (v : Nat)
  · rw [if_pos c]
    exact ⟨_, fun _ _ => .int _, shp_int _⟩
  · rw [if_neg c]
    exact ⟨_, fun _ _ => .non, rfl, Nat.le_refl _⟩
def spRight (K : PySem.W.Frag) : Sp := fun vs H Q _ => ∃ (a : Addr) (hs : List Nat), vs = [.ref a] ∧ SqT K H a (tv hs) ∧ Tab hs ∧ hs.length ≤ 8 ∧ mx hs ≤ 23 ∧ ∀ H', Same H H' → Q (.bl true) H'
end BA
set_option maxHeartbeats 4000000
namespace BA
open PySem PySem.Spec PyProof.Rows PyProof L2
/-- the counts that the law keeps -/
noncomputable def cnt (hs : List Nat) (n : Nat) : List V := (List.range n).map fun (i : Nat) => V.int (manyOf hs (i + 1))
theorem cnt_len {hs : List Nat} {n : Nat} : (cnt hs n).length = n := by unfold cnt; rw [List.length_map, List.length_range]
theorem cnt_more {hs : List Nat} {n : Nat} : cnt hs n ++ [.int (manyOf hs (n + 1))] = cnt hs (n + 1) := by
  unfold cnt
  rw [List.range_succ, List.map_append]
  rfl
theorem cnt_get {hs : List Nat} {n i : Nat} (h : i < n) : (cnt hs n)[i]? = some (.int (manyOf hs (i + 1))) := by
  unfold cnt
  rw [List.getElem?_map, List.getElem?_range h]
  rfl
section
variable {P : Program} {w : World} {K : PySem.W.Frag} {mg : Str → Option Value} {base : Heap}
theorem scRight : FnScope ["_law_table_here", "_law_boxes", "_law_counts", "_law_long", "_law_tick", "_law_outs", "_law_box"] ["_law_table_here"] (defScope sRight) := ⟨rfl, rfl, rfl, by decide +kernel, rfl, by decide +kernel, by decide +kernel⟩
theorem ok_right {C1 C2 C3 Cs : Addr} (D : Df K mg "_law_right" sRight ["_law_table_here"]) (B : Bl mg) (R1 : RowK P w K mg base C1 Cs false) (R2 : RowK P w K mg base C2 Cs true) (R3 : RowK P w K mg base C3 Cs true)
    (M2 : ManyK P w K mg base C2 Cs) (M3 : ManyK P w K mg base C3 Cs) (m1 : mg "Row" = some (.ref C1)) (m2 : mg "Counting" = some (.ref C2)) (m3 : mg "LosingCounting" = some (.ref C3))
    (GT : Pr P w K mg base "_law_tick_right" sTickRight ["_law_box", "_law_table_here", "_law_tick"] 6 (spTickRight K C1 Cs)) (GD : Pr P w K mg base "delay" sDelay ["table"] 6 (spDelay K)) (GO : Pr P w K mg base "overtakings" sOvertakings ["table"] 6 (spOver K)) :
    Pr P w K mg base "_law_right" sRight ["_law_table_here"] 7 (spRight K) := by
  obtain ⟨fp1, mp1, Fp1⟩ := R1.push
  obtain ⟨fp2, mp2, Fp2⟩ := R2.push
  obtain ⟨fp3, mp3, Fp3⟩ := R3.push
  obtain ⟨pH1, gH1, fdH1, mH1, FH1, bH1⟩ := R1.held
  obtain ⟨pH2, gH2, fdH2, mH2, FH2, bH2⟩ := R2.held
  obtain ⟨pM2, gM2, fdM2, mM2, FM2, bM2⟩ := M2.ex
  obtain ⟨pM3, gM3, fdM3, mM3, FM3, bM3⟩ := M3.ex
  obtain ⟨fI1, fdI1, mI1, FI1, bI1⟩ := R1.make
  obtain ⟨fI2, fdI2, mI2, FI2, bI2⟩ := R2.make
  obtain ⟨fI3, fdI3, mI3, FI3, bI3⟩ := R3.make
  refine D.ok scRight (fun vs H Q E h => ?_) (fun f cdv A outer s H vs Q E hr h => ?_)
  · obtain ⟨a, hs, rfl, _⟩ := h
    rfl
  · obtain ⟨a, hs, rfl, hT, T, l8, x23, q⟩ := h
    refine ⟨_, pss_cons (ps_par3 (i := 1) (j := 2) (l := 3) rfl scRight.nd rfl rfl rfl (by decide) (by decide) (by decide) rfl rfl rfl
        (pa_cons (pe_lst (pa_cons (pe_make mI1 FI1 hr (by rfl) m1 bI1 .nil pass0 (pa_cons (pv 0) pa_nil)) (pa_cons (pe_make mI2 FI2 hr (by rfl) m2 bI2 .nil pass0 (pa_cons (pv 0) pa_nil)) (pa_cons (pe_make mI3 FI3 hr (by rfl) m3 bI3 .nil pass0 (pa_cons (pv 0) pa_nil)) pa_nil))))
          (pa_cons (pe_lst pa_nil) (pa_cons (pe_callB call_len_seq rfl B.len PySem.boot_len (pa_cons (pv 0) pa_nil)) pa_nil))) (by rfl))
      (pss_cons (ps_for PassesOwn.never rfl (pi_range1 rfl B.range (pa_cons (pe_op op_add (pe_op op_mul pe_int (pe_pr GD hr (pa_cons (pv 0) pa_nil))) (pe_op op_mul pe_int (pv 3))) pa_nil)) (pg_name (i := 4) scRight.nd rfl (Or.inr rfl))
        (pss_cons (ps_setLc (i := 5) (own := [("_law_box", 6)]) (g := gName 6) (tt := tYes) rfl scRight.nd rfl rfl (sw_true rfl rfl rfl (by decide +kernel)) (pi_list (pv 1))
            (blkOk_by (N := ["_law_table_here", "_law_boxes", "_law_counts", "_law_long", "_law_tick", "_law_outs", "_law_box"]) (sc := defScope sRight) (by decide +kernel)) (fun _ _ _ _ _ => pg_name (i := 6) scRight.nd rfl (Or.inl rfl)) (fun _ _ _ _ _ => pts_nil)
            (fun _ _ _ _ _ => pe_or2 (pe_methR (pv 6) R1.rc.cl mp1 Fp1 hr pass0 (pa_cons (pv 4) pa_nil)) (pe_or2 (pe_methR (pv 6) R2.rc.cl mp2 Fp2 hr pass0 (pa_cons (pv 4) pa_nil)) (pe_methR (pv 6) R3.rc.cl mp3 Fp3 hr pass0 (pa_cons (pv 4) pa_nil)))))
        (pss_cons (ps_if (PW.pt (pw_or (pt_cmpR (op_neD hr.units) (pv 5) (pe_op op_rep (pe_slice sl_list (pv 5) po_none (po_some pe_int)) pe_int) (nomark _))
            (pw_or1 (pt_not (pt_val (pe_pr GT hr (pa_cons (pe_ix ix_list (pv 1) pe_int (fun _ _ => rfl)) (pa_cons (pv 0) (pa_cons (pe_op op_add (pv 4) pe_int) pa_nil))))))))) pss_never pss_nil)
        (pss_cons (ps_if (PW.pt (pw_or (pt_cmpR (op_neD hr.units) (pe_prop (pe_ix ix_list (pv 1) pe_int (fun _ _ => rfl)) R2.rc.cl mH2 FH2 (hr.mono (by decide)) bH2 .nil pass0 rfl) (pe_prop (pe_ix ix_list (pv 1) pe_int (fun _ _ => rfl)) R1.rc.cl mH1 FH1 (hr.mono (by decide)) bH1 .nil pass0 rfl) (nomark _))
            (pw_or1 (pt_cmpR op_ne (pe_prop (pe_ix ix_list (pv 1) pe_int (fun _ _ => rfl)) R2.rc.cl mM2 FM2 (hr.mono (by decide)) bM2 .nil pass0 rfl) (pe_prop (pe_ix ix_list (pv 1) pe_int (fun _ _ => rfl)) R3.rc.cl mM3 FM3 (hr.mono (by decide)) bM3 .nil pass0 rfl) (nomark _))))) pss_never pss_nil)
        (pss_one (ps_expr (pe_bm PySem.F.plainAttrs_list PySem.F.slot_list_append PySem.F.type_list_append mt_append (pv 2) (pa_cons (pe_prop (pe_ix ix_list (pv 1) pe_int (fun _ _ => rfl)) R2.rc.cl mM2 FM2 (hr.mono (by decide)) bM2 .nil pass0 rfl) pa_nil))))))))
      (pss_one (ps_ret (pe_cmpR op_eq (pe_op op_sub (pe_ix ix_list (pv 2) (pe_un un_neg pe_int) (fun _ _ => rfl)) (pe_ix ix_list (pv 2) (pe_op op_sub (pe_un un_neg pe_int) (pv 3)) (fun _ _ => rfl))) (pe_pr GO hr (pa_cons (pv 0) pa_nil)) (nomark _))))), ?_⟩
    have sz : ∀ n, n ≤ 4 → n ≤ sizeLine := fun n h => by rw [sizeLine_eq]; omega
    -- three rows
    refine ⟨_, rfl, fun r1 d1 nr1 nd1 ne1 => ⟨H, r1, d1, a, hs, rfl, (same_upd nd1).trans (same_upd (by rw [upd_ne ne1.symm]; exact nr1)), nr1, upd_same, Same.seqT ((same_upd nd1).trans (same_upd (by rw [upd_ne ne1.symm]; exact nr1))) hT, T, fun H1 L1 s1 nL1 b1 => ⟨rfl, ?_⟩⟩⟩
    have hT1 := Same.seqT s1 hT
    refine ⟨_, rfl, fun r2 d2 nr2 nd2 ne2 => ⟨H1, r2, d2, a, hs, rfl, (same_upd nd2).trans (same_upd (by rw [upd_ne ne2.symm]; exact nr2)), nr2, upd_same, Same.seqT ((same_upd nd2).trans (same_upd (by rw [upd_ne ne2.symm]; exact nr2))) hT1, T, fun H2 L2 s2 nL2 b2 => ⟨rfl, ?_⟩⟩⟩
    have hT2 := Same.seqT s2 hT1
    refine ⟨_, rfl, fun r3 d3 nr3 nd3 ne3 => ⟨H2, r3, d3, a, hs, rfl, (same_upd nd3).trans (same_upd (by rw [upd_ne ne3.symm]; exact nr3)), nr3, upd_same, Same.seqT ((same_upd nd3).trans (same_upd (by rw [upd_ne ne3.symm]; exact nr3))) hT2, T, fun H3 L3 s3 nL3 b3 => ⟨rfl, ?_⟩⟩⟩
    refine ⟨sz _ (Nat.le_of_ble_eq_true rfl), fun Bl nB => ⟨sz _ (Nat.le_of_ble_eq_true rfl), fun cn ncn => ?_⟩⟩
    obtain ⟨y1, e1⟩ := b1.lst
    obtain ⟨y2, e2⟩ := b2.lst
    obtain ⟨y3, e3⟩ := b3.lst
    have d12 : L1 ≠ L2 := ne_of_none e1 nL2
    have d13 : L1 ≠ L3 := ne_of_none (s2 _ _ e1) nL3
    have d23 : L2 ≠ L3 := ne_of_none e2 nL3
    have X0 : Bx K C1 C2 C3 Cs (upd (upd (upd H00 L1 (.lst [])) L2 (.lst [])) L3 (.lst [])) H3 r1 L1 r2 L2 r3 L3 a hs 0 0 0 := by
      have c1 : RowZ (upd H00 L1 (.lst [])) C1 Cs false H1 r1 L1 a hs [] := b1.less fun b e => by rw [upd_ne (ne_al e)]
      have c2 : RowZ (upd (upd H00 L1 (.lst [])) L2 (.lst [])) C2 Cs true H2 r2 L2 a hs [] := b2.less fun b e => by
        rw [upd_ne (ne_al e), upd_ne (fun z => by have := free_al e; rw [z, e1] at this; cases this)]
      have c3 : RowZ (upd (upd (upd H00 L1 (.lst [])) L2 (.lst [])) L3 (.lst [])) C3 Cs true H3 r3 L3 a hs [] := b3.less fun b e => by
        rw [upd_ne (ne_al e), upd_ne (fun z => by have := free_al e; rw [z, e2] at this; cases this), upd_ne (fun z => by have := free_al e; rw [z, s2 _ _ e1] at this; cases this)]
      refine ⟨Same.seqT s3 hT2, ((c1.more nL2).keep s2 |>.more nL3).keep s3, (c2.more nL3).keep s3, c3, d12, d13, d23, ?_, ?_, upd_same, fun b e => ?_⟩
      · rw [upd_ne d13, upd_ne d12, upd_same]
      · rw [upd_ne d23, upd_same]
      · have x1 : b ≠ L1 := fun z => by rw [z, s3 _ _ (s2 _ _ e1)] at e; cases e
        have x2 : b ≠ L2 := fun z => by rw [z, s3 _ _ e2] at e; cases e
        have x3 : b ≠ L3 := fun z => by rw [z, e3] at e; cases e
        rw [upd_ne x3, upd_ne x2, upd_ne x1]
    have s123 := s1.trans (s2.trans s3)
    have l1B : L1 ≠ Bl := ne_of_none (s3 _ _ (s2 _ _ e1)) nB
    have l2B : L2 ≠ Bl := ne_of_none (s3 _ _ e2) nB
    have l3B : L3 ≠ Bl := ne_of_none e3 nB
    have l1c : L1 ≠ cn := ne_of_none (s3 _ _ (s2 _ _ e1)) (free_al ncn)
    have l2c : L2 ≠ cn := ne_of_none (s3 _ _ e2) (free_al ncn)
    have l3c : L3 ≠ cn := ne_of_none e3 (free_al ncn)
    have Bcn : Bl ≠ cn := (ne_al ncn).symm
    have X1 := (X0.keep (same_upd nB (o := .lst [.ref r1, .ref r2, .ref r3]))).more (ys := []) ncn
    have hB : upd (upd H3 Bl (.lst [.ref r1, .ref r2, .ref r3])) cn (.lst []) Bl = some (.lst [.ref r1, .ref r2, .ref r3]) := al ncn upd_same
    have hcn : upd (upd H3 Bl (.lst [.ref r1, .ref r2, .ref r3])) cn (.lst []) cn = some (.lst []) := upd_same
    have zcn : upd (upd (upd (upd H00 L1 (.lst [])) L2 (.lst [])) L3 (.lst [])) cn (.lst []) cn = some (.lst []) := upd_same
    have sA : Same H (upd (upd H3 Bl (.lst [.ref r1, .ref r2, .ref r3])) cn (.lst [])) := s123.trans ((same_upd nB).trans (same_upd ncn))
    have f1 : H L1 = none := nL1
    have f2 : H L2 = none := s1.free nL2
    have f3 : H L3 = none := s1.free (s2.free nL3)
    have fc : H cn = none := s123.free (free_al ncn)
    clear X0 e1 e2 e3 b1 b2 b3 nL1 nL2 nL3
    generalize upd (upd H3 Bl (.lst [.ref r1, .ref r2, .ref r3])) cn (.lst []) = G at X1 hB hcn sA ⊢
    generalize hZ : upd (upd (upd (upd H00 L1 (.lst [])) L2 (.lst [])) L3 (.lst [])) cn (.lst []) = Z at X1 zcn
    clear hZ
    have sb : ∀ {X Y : Hp} {l : Addr}, Same H X → SameBut l X Y → H l = none → Same H Y := fun s b n c o e => b c o (ne_of_none e n) (s c o e)
    refine ⟨_, rfl, a, _, rfl, .inr X1.t, _, _, _, rfl, ?_⟩
    refine ⟨_, rfl, a, hs, rfl, X1.t, T, fun G1 t1 => ?_⟩
    have hl8 : (tv hs).length = hs.length := tv_len
    refine ⟨_, _, rfl, rfl, .inl ⟨by decide, by decide⟩, _, rfl, _, _, rfl, rfl, .inl ⟨by decide, by decide⟩, _, _, rfl, rfl, 2 * ((mx hs : Nat) : Int) + 3 * (((tv hs).length : Nat) : Int), rfl, by omega, by omega, ?_⟩
    rw [show (2 * ((mx hs : Nat) : Int) + 3 * (((tv hs).length : Nat) : Int)).toNat = 2 * mx hs + 3 * hs.length by rw [hl8]; omega]
    refine for_range (lo := 0) (n := 2 * mx hs + 3 * hs.length) (fun i σ H' => ∃ o4 o5, σ = [some (.ref a), some (.ref Bl), some (.ref cn), some (.int ((tv hs).length : Nat)), o4, o5, none] ∧ Same H H' ∧ Bx K C1 C2 C3 Cs Z H' r1 L1 r2 L2 r3 L3 a hs i i i ∧ H' Bl = some (.lst [.ref r1, .ref r2, .ref r3]) ∧ H' cn = some (.lst (cnt hs i)))
      ⟨none, none, rfl, sA.trans t1, X1.keep t1, t1 _ _ hB, t1 _ _ hcn⟩ ?_ ?_
    · rintro i σ H' hi ⟨o4, o5, rfl, sH, X, hB, hcn⟩
      rw [Int.zero_add]
      have i70 : i < 70 := by omega
      refine ⟨_, rfl, Bl, rfl, ⟨_, SqL.of hB⟩, fun Dl nD => ?_⟩
      obtain ⟨y1, e1⟩ := X.b1.lst
      obtain ⟨y2, e2⟩ := X.b2.lst
      obtain ⟨y3, e3⟩ := X.b3.lst
      have l1D : L1 ≠ Dl := ne_of_none e1 nD
      have l2D : L2 ≠ Dl := ne_of_none e2 nD
      have l3D : L3 ≠ Dl := ne_of_none e3 nD
      have BD : Bl ≠ Dl := ne_of_none hB nD
      have cD : cn ≠ Dl := ne_of_none hcn nD
      have fD : H Dl = none := sH.free nD
      have tail : ∀ {H2 H3 : Hp} {l : Addr} {k n1 n2 n3 : Nat}, Same H H2 → H2 Bl = some (.lst [.ref r1, .ref r2, .ref r3]) → H2 cn = some (.lst (cnt hs i)) → H2 Dl = some (.lst (List.replicate k (outV hs (iv (i + 1)) i))) → H l = none → l ≠ Bl → l ≠ cn → l ≠ Dl → SameBut l H2 H3 →
          Bx K C1 C2 C3 Cs (upd Z Dl (.lst [])) H3 r1 L1 r2 L2 r3 L3 a hs n1 n2 n3 → H3 Dl = some (.lst (List.replicate k (outV hs (iv (i + 1)) i))) ∧
          Same H (upd H3 Dl (.lst (List.replicate (k + 1) (outV hs (iv (i + 1)) i)))) ∧ Bx K C1 C2 C3 Cs (upd Z Dl (.lst [])) (upd H3 Dl (.lst (List.replicate (k + 1) (outV hs (iv (i + 1)) i)))) r1 L1 r2 L2 r3 L3 a hs n1 n2 n3 ∧
          upd H3 Dl (.lst (List.replicate (k + 1) (outV hs (iv (i + 1)) i))) Bl = some (.lst [.ref r1, .ref r2, .ref r3]) ∧ upd H3 Dl (.lst (List.replicate (k + 1) (outV hs (iv (i + 1)) i))) cn = some (.lst (cnt hs i)) ∧
          upd H3 Dl (.lst (List.replicate (k + 1) (outV hs (iv (i + 1)) i))) Dl = some (.lst (List.replicate (k + 1) (outV hs (iv (i + 1)) i))) := fun {H2 H3 l k n1 n2 n3} s2 q1 q2 q3 fl x1 x2 x3 sbl XX => by
        have d3 := sbl _ _ x3.symm q3
        refine ⟨d3, sb (sb s2 sbl fl) SameBut.upd fD, XX.list upd_same d3 l1D l2D l3D, ?_, ?_, upd_same⟩
        · rw [upd_ne BD]
          exact sbl _ _ x1.symm q1
        · rw [upd_ne cD]
          exact sbl _ _ x2.symm q2
      have oe : ∀ k, List.replicate k (outV hs (iv (i + 1)) i) ++ [outV hs (iv i ++ [V.int ((i : Nat) : Int)]) (iv i).length] = List.replicate (k + 1) (outV hs (iv (i + 1)) i) := fun k => by rw [iv_more, iv_len, List.replicate_succ']
      have sl : ∀ k, k < 4 → (List.replicate k (outV hs (iv (i + 1)) i)).length < sizeLine := fun k hk => by rw [List.length_replicate]; exact small1000 (by omega)
      refine lc_list (K := K) (a := Bl) (xs := [.ref r1, .ref r2, .ref r3]) (fun k H2 => Same H H2 ∧ Bx K C1 C2 C3 Cs (upd Z Dl (.lst [])) H2 r1 L1 r2 L2 r3 L3 a hs (if 0 < k then i + 1 else i) (if 1 < k then i + 1 else i) (if 2 < k then i + 1 else i) ∧ H2 Bl = some (.lst [.ref r1, .ref r2, .ref r3]) ∧ H2 cn = some (.lst (cnt hs i)) ∧ H2 Dl = some (.lst (List.replicate k (outV hs (iv (i + 1)) i))))
        ⟨sH.trans (same_upd nD), X.more nD, al nD hB, al nD hcn, upd_same⟩ (fun k H2 _ ⟨_, _, q, _⟩ => SqL.of q) ?_ ?_
      · rintro k x H2 hx ⟨sH2, XX, q1, q2, q3⟩
        match k, hx with
        | 0, hx =>
          obtain rfl := Option.some.inj hx
          obtain ⟨dx, hr1⟩ := XX.b1.ins
          refine ⟨rfl, .inl ⟨_, rfl, r1, dx, _, rfl, hr1, (lk_past (by decide +kernel)).trans rfl, _, rfl, upd Z Dl (.lst []), r1, L1, a, hs, iv i, .int ((i : Nat) : Int), rfl, .inl ⟨_, rfl⟩, XX.b1.row, XX.dm, XX.t, T, by rw [iv_len]; omega, fun H3 sbl RR => ?_⟩⟩
          rw [iv_more] at RR
          obtain ⟨d3, z1, z2, z3, z4, z5⟩ := tail sH2 q1 q2 q3 f1 l1B l1c l1D sbl (XX.push1 sbl RR)
          refine ⟨_, d3, sl 0 (by omega), ?_⟩
          rw [oe]
          exact ⟨z1, z2, z3, z4, z5⟩
        | 1, hx =>
          obtain rfl := Option.some.inj hx
          obtain ⟨dx, hr1⟩ := XX.b2.ins
          refine ⟨rfl, .inr (.inl ⟨_, rfl, r2, dx, _, rfl, hr1, (lk_past (by decide +kernel)).trans rfl, _, rfl, upd Z Dl (.lst []), r2, L2, a, hs, iv i, .int ((i : Nat) : Int), rfl, .inl ⟨_, rfl⟩, XX.b2.row, XX.dm, XX.t, T, by rw [iv_len]; omega, fun H3 sbl RR => ?_⟩)⟩
          rw [iv_more] at RR
          obtain ⟨d3, z1, z2, z3, z4, z5⟩ := tail sH2 q1 q2 q3 f2 l2B l2c l2D sbl (XX.push2 sbl RR)
          refine ⟨_, d3, sl 1 (by omega), ?_⟩
          rw [oe]
          exact ⟨z1, z2, z3, z4, z5⟩
        | 2, hx =>
          obtain rfl := Option.some.inj hx
          obtain ⟨dx, hr1⟩ := XX.b3.ins
          refine ⟨rfl, .inr (.inr ⟨_, rfl, r3, dx, _, rfl, hr1, (lk_past (by decide +kernel)).trans rfl, _, rfl, upd Z Dl (.lst []), r3, L3, a, hs, iv i, .int ((i : Nat) : Int), rfl, .inl ⟨_, rfl⟩, XX.b3.row, XX.dm, XX.t, T, by rw [iv_len]; omega, fun H3 sbl RR => ?_⟩)⟩
          rw [iv_more] at RR
          obtain ⟨d3, z1, z2, z3, z4, z5⟩ := tail sH2 q1 q2 q3 f3 l3B l3c l3D sbl (XX.push3 sbl RR)
          refine ⟨_, d3, sl 2 (by omega), ?_⟩
          rw [oe]
          exact ⟨z1, z2, z3, z4, z5⟩
      · rintro H4 ⟨sH4, XX, q1, q2, q3⟩
        have X4 : Bx K C1 C2 C3 Cs Z H4 r1 L1 r2 L2 r3 L3 a hs (i + 1) (i + 1) (i + 1) := XX.less l1D l2D l3D
        clear XX
        obtain ⟨d, dO, dS⟩ := outV_data (n := i + 1) (v := i) T (by omega)
        have hD3 : H4 Dl = some (.lst [outV hs (iv (i + 1)) i, outV hs (iv (i + 1)) i, outV hs (iv (i + 1)) i]) := q3
        have dl : ∀ HH, DpAll K HH [outV hs (iv (i + 1)) i, outV hs (iv (i + 1)) i, outV hs (iv (i + 1)) i] [d, d, d] := fun HH => .cons (dO K HH) (.cons (dO K HH) (.cons (dO K HH) .nil))
        have ds : PyData.canLay0 (.list [d, d, d]) = true ∧ PyData.depth (.list [d, d, d]) ≤ 1 := shp_lst (k := 0) fun d' hd' => by
          have e : d' = d := by
            rcases List.mem_cons.mp hd' with e | hd'
            · exact e
            · rcases List.mem_cons.mp hd' with e | hd'
              · exact e
              · exact List.mem_singleton.mp hd'
          rw [e]
          exact dS
        -- outs != outs[:1] * 3
        refine ⟨_, rfl, _, rfl, _, rfl, Dl, _, rfl, SqL.of hD3, fun p np => ⟨p, 3, _, rfl, rfl, upd_same, by decide, by decide, by rw [sizeLine_eq]; exact Nat.le_of_ble_eq_true rfl, fun p2 np2 => ?_⟩⟩
        refine ⟨.list [d, d, d], .list [d, d, d], Dp.lst (SqL.of (al np2 (al np hD3))) (dl _), Dp.lst (SqL.of upd_same) (dl _), shaped_of ds (by decide), shaped_of ds (by decide), false, by rw [SeqAt.eqv_refl _ ds.1]; rfl, iteF ?_⟩
        have X5 := X4.keep ((same_upd np (o := .lst (cutV [outV hs (iv (i + 1)) i, outV hs (iv (i + 1)) i, outV hs (iv (i + 1)) i] none (some 1)))).trans (same_upd np2 (o := .lst (List.replicate (3 : Int).toNat (cutV [outV hs (iv (i + 1)) i, outV hs (iv (i + 1)) i, outV hs (iv (i + 1)) i] none (some 1))).flatten)))
        have s5 := sH4.trans ((same_upd np (o := .lst (cutV [outV hs (iv (i + 1)) i, outV hs (iv (i + 1)) i, outV hs (iv (i + 1)) i] none (some 1)))).trans (same_upd np2 (o := .lst (List.replicate (3 : Int).toNat (cutV [outV hs (iv (i + 1)) i, outV hs (iv (i + 1)) i, outV hs (iv (i + 1)) i] none (some 1))).flatten)))
        have B5 := al np2 (o := .lst (List.replicate (3 : Int).toNat (cutV [outV hs (iv (i + 1)) i, outV hs (iv (i + 1)) i, outV hs (iv (i + 1)) i] none (some 1))).flatten) (al np (o := .lst (cutV [outV hs (iv (i + 1)) i, outV hs (iv (i + 1)) i, outV hs (iv (i + 1)) i] none (some 1))) q1)
        have c5 := al np2 (o := .lst (List.replicate (3 : Int).toNat (cutV [outV hs (iv (i + 1)) i, outV hs (iv (i + 1)) i, outV hs (iv (i + 1)) i] none (some 1))).flatten) (al np (o := .lst (cutV [outV hs (iv (i + 1)) i, outV hs (iv (i + 1)) i, outV hs (iv (i + 1)) i] none (some 1))) q2)
        generalize upd (upd H4 p (.lst (cutV [outV hs (iv (i + 1)) i, outV hs (iv (i + 1)) i, outV hs (iv (i + 1)) i] none (some 1)))) p2 (.lst (List.replicate (3 : Int).toNat (cutV [outV hs (iv (i + 1)) i, outV hs (iv (i + 1)) i, outV hs (iv (i + 1)) i] none (some 1))).flatten) = H5 at X5 s5 B5 c5 ⊢
        -- _law_tick_right(boxes[0], table, tick + 1)
        refine ⟨_, rfl, Bl, _, _, _, rfl, rfl, SqL.of B5, rfl, _, rfl, _, rfl, _, _, rfl, rfl, r1, L1, a, hs, i + 1, rfl, X5.b1.row, X5.t, T, by omega, by omega, fun H6 t6 => ⟨true, rfl, iteF ?_⟩⟩
        -- held, overtakings
        obtain ⟨dx1, hr1⟩ := (X5.keep t6).b1.ins
        obtain ⟨dx2, hr2⟩ := (X5.keep t6).b2.ins
        obtain ⟨dx3, hr3⟩ := (X5.keep t6).b3.ins
        have B6 := t6 _ _ B5
        have c6 := t6 _ _ c5
        have X6 := X5.keep t6
        refine ⟨_, rfl, Bl, _, _, _, rfl, rfl, SqL.of B6, rfl, r2, dx2, _, rfl, hr2, r2, L2, a, hs, iv (i + 1), rfl, X6.b2.row, T, by rw [iv_len]; omega, fun H7 p7 us7 as7 t7 hd7 => ?_⟩
        refine ⟨_, rfl, Bl, _, _, _, rfl, rfl, SqL.of (t7 _ _ B6), rfl, r1, dx1, _, rfl, t7 _ _ hr1, r1, L1, a, hs, iv (i + 1), rfl, (X6.keep t7).b1.row, T, by rw [iv_len]; omega, fun H8 p8 us8 as8 t8 hd8 => ?_⟩
        have eu := hd7.uniq hd8
        subst eu
        refine ⟨heldD hs (i + 1) us7, heldD hs (i + 1) us7, (hd7.same t8).dp T, hd8.dp T, shaped_of heldD_shp (by decide), shaped_of heldD_shp (by decide), false, by rw [SeqAt.eqv_refl _ heldD_shp.1]; rfl, iteF ?_⟩
        have t68 := t7.trans t8
        have X8 := X6.keep t68
        have B8 := t68 _ _ B6
        have c8 := t68 _ _ c6
        have mn : manyOf hs (iv (i + 1)).length = manyOf hs (i + 1) := by rw [iv_len]
        refine ⟨_, rfl, Bl, _, _, _, rfl, rfl, SqL.of B8, rfl, r2, dx2, _, rfl, t68 _ _ hr2, r2, L2, a, hs, iv (i + 1), rfl, X8.b2.row, ?_⟩
        refine ⟨_, rfl, Bl, _, _, _, rfl, rfl, SqL.of B8, rfl, r3, dx3, _, rfl, t68 _ _ hr3, r3, L3, a, hs, iv (i + 1), rfl, X8.b3.row, rfl, false, by simp, iteF ?_⟩
        -- counts.append(..)
        refine ⟨_, rfl, .inl ⟨rfl, _, SqL.of c8⟩, _, rfl, Bl, _, _, _, rfl, rfl, SqL.of B8, rfl, r2, dx2, _, rfl, t68 _ _ hr2, r2, L2, a, hs, iv (i + 1), rfl, X8.b2.row, cn, _, _, rfl, rfl, c8, by rw [cnt_len]; exact small1000 (by omega), ?_⟩
        rw [mn, cnt_more]
        refine ⟨some (.int ((i : Nat) : Int)), some (.ref Dl), rfl, sb (s5.trans (t6.trans t68)) SameBut.upd fc, X8.list zcn c8 l1c l2c l3c, ?_, upd_same⟩
        rw [upd_ne Bcn]
        exact B8
    · rintro σ H' ⟨o4, o5, rfl, sH, X, hB, hcn⟩
      have n0 := T.pos
      have lN : (cnt hs (2 * mx hs + 3 * hs.length)).length = 2 * mx hs + 3 * hs.length := cnt_len
      refine ⟨_, rfl, _, rfl, cn, _, _, _, rfl, rfl, SqL.of hcn, atI_neg (j := 2 * mx hs + 3 * hs.length - 1) (cnt_get (by omega)) (by rw [lN]; omega) (by decide), ?_⟩
      refine ⟨_, rfl, _, rfl, _, rfl, _, _, rfl, rfl, cn, _, _, _, rfl, rfl, SqL.of hcn, atI_neg (j := 2 * mx hs + 3 * hs.length - 1 - hs.length) (cnt_get (by omega)) (by rw [lN, hl8]; omega) (by omega), ?_⟩
      refine ⟨_, _, rfl, rfl, _, rfl, a, hs, rfl, X.t, T, fun H9 t9 => ⟨rfl, ?_⟩⟩
      have ew := many_window T (N := 2 * mx hs + 3 * hs.length) (by omega)
      have ed : decide (V.int (manyOf hs (2 * mx hs + 3 * hs.length - 1 + 1) - manyOf hs (2 * mx hs + 3 * hs.length - 1 - hs.length + 1)) = V.int (overOf hs)) = true := by
        rw [show 2 * mx hs + 3 * hs.length - 1 + 1 = 2 * mx hs + 3 * hs.length by omega, show 2 * mx hs + 3 * hs.length - 1 - hs.length + 1 = 2 * mx hs + 3 * hs.length - hs.length by omega, ew]
        exact decide_eq_true rfl
      show Q (.bl (decide (V.int (manyOf hs (2 * mx hs + 3 * hs.length - 1 + 1) - manyOf hs (2 * mx hs + 3 * hs.length - 1 - hs.length + 1)) = V.int (overOf hs)))) H9
      rw [ed]
      exact q _ (sH.trans t9)
end
end BA
set_option maxHeartbeats 4000000
namespace BA
open PySem PySem.Spec PyProof.Rows PyProof L2
/-- what the second row gets at tick v -/
noncomputable def feed (hs : List Nat) (v : Nat) : V := if 0 ≤ thing hs v then .int (thing hs v) else .str "none"
noncomputable def ws (hs : List Nat) (n : Nat) : List V := (List.range n).map fun (v : Nat) => feed hs v
noncomputable def rs (hs bs : List Nat) (n : Nat) : List V := (List.range n).map fun (v : Nat) => outV bs (ws hs (v + 1)) v
theorem ws_len {hs : List Nat} {n : Nat} : (ws hs n).length = n := by unfold ws; rw [List.length_map, List.length_range]
theorem rs_len {hs bs : List Nat} {n : Nat} : (rs hs bs n).length = n := by unfold rs; rw [List.length_map, List.length_range]
theorem ws_more {hs : List Nat} {n : Nat} : ws hs n ++ [feed hs n] = ws hs (n + 1) := by
  unfold ws
  rw [List.range_succ, List.map_append]
  rfl
theorem rs_more {hs bs : List Nat} {n : Nat} : rs hs bs n ++ [outV bs (ws hs (n + 1)) n] = rs hs bs (n + 1) := by
  unfold rs
  rw [List.range_succ, List.map_append]
  rfl
theorem feed_ok {hs : List Nat} {v : Nat} : VOk (feed hs v) := by
  unfold feed
  by_cases c : 0 ≤ thing hs (v : Nat)
  · rw [if_pos c]; exact .inl ⟨_, rfl⟩
  · rw [if_neg c]; exact .inr rfl
/-- far behind, the second row gives back the ticks in order -/
theorem back_gives {hs bs : List Nat} (T : Tab hs) (hb : IsBack hs bs) {v : Nat} (h : 2 * mx hs ≤ v) : outV bs (ws hs (v + 1)) v = .int (((v : Nat) : Int) - (mx hs : Nat)) := by
  have e := back_thing T hb.1 hb.2 (v : Nat)
  have h0 := hold_nn T (((v : Nat) : Int) - (mx hs : Nat))
  have h1 := hold_le T (((v : Nat) : Int) - (mx hs : Nat))
  have eo : out hs (((v : Nat) : Int) - (mx hs : Nat)) = ((v : Nat) : Int) - (mx hs : Nat) + hold hs (((v : Nat) : Int) - (mx hs : Nat)) := rfl
  have p0 : 0 ≤ out hs (((v : Nat) : Int) - (mx hs : Nat)) := by omega
  unfold outV
  rw [e, if_pos p0]
  have lt : (out hs (((v : Nat) : Int) - (mx hs : Nat))).toNat < v + 1 := by omega
  unfold ws
  rw [List.getD_eq_getElem?_getD, List.getElem?_map, List.getElem?_range lt]
  show feed hs _ = _
  unfold feed
  rw [Int.toNat_of_nonneg p0, thing_out T, if_pos (by omega)]
theorem cut_from {xs : List V} {d : Nat} (h : d ≤ xs.length) : cutV xs (some ((d : Nat) : Int)) none = xs.drop d := by
  unfold cutV
  have e : HT.sIx xs.length 0 (some ((d : Nat) : Int)) = d := by
    show (if ((d : Nat) : Int) < 0 then (((d : Nat) : Int) + (xs.length : Nat)).toNat else min ((d : Nat) : Int).toNat xs.length) = d
    rw [if_neg (by omega), Int.toNat_natCast]
    omega
  rw [e]
  show List.take (xs.length - d) (xs.drop d) = _
  exact List.take_of_length_le (Nat.le_of_eq List.length_drop)
theorem rs_end {hs bs : List Nat} (T : Tab hs) (hb : IsBack hs bs) : (rs hs bs (3 * mx hs + 5)).drop (2 * mx hs) = ((List.range (mx hs + 5)).map fun (k : Nat) => (((mx hs : Nat) : Int) + (k : Nat))).map V.int := by
  refine List.ext_getElem? fun i => ?_
  rw [List.getElem?_drop, List.map_map]
  by_cases c : i < mx hs + 5
  · unfold rs
    rw [List.getElem?_map, List.getElem?_map, List.getElem?_range c, List.getElem?_range (by omega)]
    show some (outV bs (ws hs (2 * mx hs + i + 1)) (2 * mx hs + i : Nat)) = some (V.int (((mx hs : Nat) : Int) + (i : Nat)))
    rw [back_gives T hb (by omega)]
    congr 2
    omega
  · rw [List.getElem?_eq_none (by rw [rs_len]; omega), List.getElem?_eq_none (by rw [List.length_map, List.length_range]; omega)]
section
variable {P : Program} {w : World} {K : PySem.W.Frag} {mg : Str → Option Value} {base : Heap}
theorem scBackRight : FnScope ["_law_table_here", "_law_there", "_law_again", "_law_outs", "_law_tick", "_law_out", "_law_far"] ["_law_table_here"] (defScope sBackRight) := ⟨rfl, rfl, rfl, by decide +kernel, rfl, by decide +kernel, by decide +kernel⟩
theorem ok_backRight {C1 Cs : Addr} (D : Df K mg "_law_back_right" sBackRight ["_law_table_here"]) (B : Bl mg) (R1 : RowK P w K mg base C1 Cs false) (m1 : mg "Row" = some (.ref C1))
    (GB : Pr P w K mg base "back" sBack ["table"] 6 (spBack K)) (GD : Pr P w K mg base "delay" sDelay ["table"] 6 (spDelay K)) : Pr P w K mg base "_law_back_right" sBackRight ["_law_table_here"] 7 (spRight K) := by
  obtain ⟨fp1, mp1, Fp1⟩ := R1.push
  obtain ⟨fI1, fdI1, mI1, FI1, bI1⟩ := R1.make
  refine D.ok scBackRight (fun vs H Q E h => ?_) (fun f cdv A outer s H vs Q E hr h => ?_)
  · obtain ⟨a, hs, rfl, _⟩ := h
    rfl
  · obtain ⟨a, hs, rfl, hT, T, l8, x23, q⟩ := h
    refine ⟨_, pss_cons (ps_par3 (i := 1) (j := 2) (l := 3) rfl scBackRight.nd rfl rfl rfl (by decide) (by decide) (by decide) rfl rfl rfl
        (pa_cons (pe_make mI1 FI1 hr (by rfl) m1 bI1 .nil pass0 (pa_cons (pv 0) pa_nil)) (pa_cons (pe_make mI1 FI1 hr (by rfl) m1 bI1 .nil pass0 (pa_cons (pe_pr GB hr (pa_cons (pv 0) pa_nil)) pa_nil)) (pa_cons (pe_lst pa_nil) pa_nil))) (by rfl))
      (pss_cons (ps_for PassesOwn.never rfl (pi_range1 rfl B.range (pa_cons (pe_op op_add (pe_op op_mul pe_int (pe_pr GD hr (pa_cons (pv 0) pa_nil))) pe_int) pa_nil)) (pg_name (i := 4) scBackRight.nd rfl (Or.inl rfl))
        (pss_cons (ps_set (i := 5) scBackRight.nd rfl (.inl rfl) (pe_methR (pv 1) R1.rc.cl mp1 Fp1 hr pass0 (pa_cons (pv 4) pa_nil)))
        (pss_one (ps_expr (pe_bm PySem.F.plainAttrs_list PySem.F.slot_list_append PySem.F.type_list_append mt_append (pv 3) (pa_cons (pe_methR (pv 2) R1.rc.cl mp1 Fp1 hr pass0 (pa_cons (pe_ifExp (pt_cmpR op_notN (pv 5) pe_non (nomark _)) (pv 5) pe_str) pa_nil)) pa_nil))))))
      (pss_cons (ps_set (i := 6) scBackRight.nd rfl (.inl rfl) (pe_pr GD hr (pa_cons (pv 0) pa_nil)))
      (pss_one (ps_ret (pe_cmpR (op_eqD hr.units) (pe_slice sl_list (pv 3) (po_some (pe_op op_mul pe_int (pv 6))) po_none) (pe_listRg rfl rfl B.list (prg_2 rfl B.range (pv 6) (pe_op op_add (pe_op op_mul pe_int (pv 6)) pe_int))) (nomark _)))))), ?_⟩
    have sz : ∀ n, n ≤ 4 → n ≤ sizeLine := fun n h => by rw [sizeLine_eq]; omega
    refine ⟨_, rfl, fun r1 d1 nr1 nd1 ne1 => ⟨H, r1, d1, a, hs, rfl, (same_upd nd1).trans (same_upd (by rw [upd_ne ne1.symm]; exact nr1)), nr1, upd_same, Same.seqT ((same_upd nd1).trans (same_upd (by rw [upd_ne ne1.symm]; exact nr1))) hT, T, fun H1 L1 s1 nL1 b1 => ⟨rfl, ?_⟩⟩⟩
    have hT1 := Same.seqT s1 hT
    refine ⟨_, rfl, a, hs, rfl, hT1, T, fun H2 b bs s2 hb2 hbk => ?_⟩
    have Tb : Tab bs := back_tab T hbk.1 hbk.2
    refine fun r2 d2 nr2 nd2 ne2 => ⟨H2, r2, d2, b, bs, rfl, (same_upd nd2).trans (same_upd (by rw [upd_ne ne2.symm]; exact nr2)), nr2, upd_same, Same.seqT ((same_upd nd2).trans (same_upd (by rw [upd_ne ne2.symm]; exact nr2))) (SqT.of hb2), Tb, fun H3 L2 s3 nL2 b2 => ⟨rfl, ?_⟩⟩
    refine ⟨sz _ (Nat.le_of_ble_eq_true rfl), fun lo nlo => ⟨_, _, _, rfl, ?_⟩⟩
    obtain ⟨y1, e1⟩ := b1.lst
    obtain ⟨y2, e2⟩ := b2.lst
    have d12 : L1 ≠ L2 := ne_of_none (s2 _ _ e1) nL2
    have c1 : RowZ (upd H00 L1 (.lst [])) C1 Cs false H1 r1 L1 a hs [] := b1.less fun b e => by rw [upd_ne (ne_al e)]
    have c2 : RowZ (upd (upd H00 L1 (.lst [])) L2 (.lst [])) C1 Cs false H3 r2 L2 b bs [] := b2.less fun b e => by
      rw [upd_ne (ne_al e), upd_ne (fun z => by have := free_al e; rw [z, s2 _ _ e1] at this; cases this)]
    have c1' : RowZ (upd (upd H00 L1 (.lst [])) L2 (.lst [])) C1 Cs false H3 r1 L1 a hs [] := ((c1.keep s2).more nL2).keep s3
    have g1 := (c1'.more (o := .lst []) nlo).keep (same_upd nlo (o := .lst []))
    have g2 := (c2.more (o := .lst []) nlo).keep (same_upd nlo (o := .lst []))
    have l1o : L1 ≠ lo := ne_of_none (s3 _ _ (s2 _ _ e1)) nlo
    have l2o : L2 ≠ lo := ne_of_none e2 nlo
    have dm : Dm (upd (upd (upd H00 L1 (.lst [])) L2 (.lst [])) lo (.lst [])) (upd H3 lo (.lst [])) := fun x e => by
      have x1 : x ≠ L1 := fun z => by have := free_al e; rw [z, s3 _ _ (s2 _ _ e1)] at this; cases this
      have x2 : x ≠ L2 := fun z => by have := free_al e; rw [z, e2] at this; cases this
      rw [upd_ne (ne_al e), upd_ne x2, upd_ne x1]
    have z1 : upd (upd (upd H00 L1 (.lst [])) L2 (.lst [])) lo (.lst []) L1 = some (.lst []) := by rw [upd_ne l1o, upd_ne d12, upd_same]
    have z2 : upd (upd (upd H00 L1 (.lst [])) L2 (.lst [])) lo (.lst []) L2 = some (.lst []) := by rw [upd_ne l2o, upd_same]
    have z3 : upd (upd (upd H00 L1 (.lst [])) L2 (.lst [])) lo (.lst []) lo = some (.lst []) := upd_same
    have s123 := s1.trans (s2.trans s3)
    have f1 : H L1 = none := nL1
    have f2 : H L2 = none := s1.free (s2.free nL2)
    have fo : H lo = none := s123.free nlo
    have hlo : upd H3 lo (.lst []) lo = some (.lst (rs hs bs 0)) := upd_same
    have sA : Same H (upd H3 lo (.lst [])) := s123.trans (same_upd nlo)
    have tA : SqT K (upd H3 lo (.lst [])) b (tv bs) := Same.seqT (s3.trans (same_upd nlo)) (SqT.of hb2)
    generalize upd H3 lo (.lst []) = G at g1 g2 dm hlo sA tA ⊢
    generalize upd (upd (upd H00 L1 (.lst [])) L2 (.lst [])) lo (.lst []) = Z at g1 g2 dm z1 z2 z3
    have sb : ∀ {X Y : Hp} {l : Addr}, Same H X → SameBut l X Y → H l = none → Same H Y := fun s b n c o e => b c o (ne_of_none e n) (s c o e)
    refine ⟨_, rfl, a, hs, rfl, Same.seqT sA hT, T, fun G1 t1 => ?_⟩
    refine ⟨_, _, rfl, rfl, .inl ⟨by decide, by decide⟩, _, _, rfl, rfl, 3 * ((mx hs : Nat) : Int) + 5, rfl, by omega, by omega, ?_⟩
    rw [show (3 * ((mx hs : Nat) : Int) + 5).toNat = 3 * mx hs + 5 by omega]
    refine for_range (lo := 0) (n := 3 * mx hs + 5) (fun i σ H' => ∃ o4 o5, σ = [some (.ref a), some (.ref r1), some (.ref r2), some (.ref lo), o4, o5, none] ∧ Same H H' ∧ SqT K H' b (tv bs) ∧ RowZ Z C1 Cs false H' r1 L1 a hs (iv i) ∧ RowZ Z C1 Cs false H' r2 L2 b bs (ws hs i) ∧ Dm Z H' ∧ H' lo = some (.lst (rs hs bs i)))
      ⟨none, none, rfl, sA.trans t1, Same.seqT t1 tA, g1.keep t1, g2.keep t1, dm.same t1, t1 _ _ hlo⟩ ?_ ?_
    · rintro i σ H' hi ⟨o4, o5, rfl, sH, tb, w1, w2, dm', ho⟩
      rw [Int.zero_add]
      obtain ⟨dx1, hr1⟩ := w1.ins
      obtain ⟨ya, ea⟩ := w1.lst
      refine ⟨_, rfl, r1, dx1, _, rfl, hr1, (lk_past (by decide +kernel)).trans rfl, _, rfl, Z, r1, L1, a, hs, iv i, .int ((i : Nat) : Int), rfl, .inl ⟨_, rfl⟩, w1.row, dm', Same.seqT sH hT, T, by rw [iv_len]; omega, fun H4 sb1 v1 => ?_⟩
      rw [iv_more] at v1
      rw [iv_more, iv_len, outV_iv T (Nat.lt_succ_self i)]
      have v2 := w2.but z1 ea d12.symm sb1
      obtain ⟨ya', ea'⟩ := v1.lst
      have dm4 := dm'.but sb1 ea'
      have ho4 := sb1 _ _ l1o.symm ho
      have tb4 := sb1.seqT ea tb
      have sH4 := sb sH sb1 f1
      obtain ⟨dx2, hr2⟩ := v2.ins
      obtain ⟨yb, eb⟩ := v2.lst
      have fin : ∀ H5, SameBut L2 H4 H5 → RowZ Z C1 Cs false H5 r2 L2 b bs (ws hs i ++ [feed hs i]) → H5 lo = some (.lst (rs hs bs i)) ∧ Same H (upd H5 lo (.lst (rs hs bs (i + 1)))) ∧ SqT K (upd H5 lo (.lst (rs hs bs (i + 1)))) b (tv bs) ∧
          RowZ Z C1 Cs false (upd H5 lo (.lst (rs hs bs (i + 1)))) r1 L1 a hs (iv (i + 1)) ∧ RowZ Z C1 Cs false (upd H5 lo (.lst (rs hs bs (i + 1)))) r2 L2 b bs (ws hs (i + 1)) ∧ Dm Z (upd H5 lo (.lst (rs hs bs (i + 1)))) ∧ upd H5 lo (.lst (rs hs bs (i + 1))) lo = some (.lst (rs hs bs (i + 1))) := fun H5 sb2 x2 => by
        rw [ws_more] at x2
        obtain ⟨yc, ec⟩ := x2.lst
        have x1 := v1.but z2 eb d12 sb2
        have ho5 := sb2 _ _ l2o.symm ho4
        exact ⟨ho5, sb (sb sH4 sb2 f2) SameBut.upd fo, SameBut.upd.seqT ho5 (sb2.seqT eb tb4), x1.but z3 ho5 l1o SameBut.upd, x2.but z3 ho5 l2o SameBut.upd, (dm4.but sb2 ec).but SameBut.upd upd_same, upd_same⟩
      have oe : rs hs bs i ++ [outV bs (ws hs i ++ [feed hs i]) (ws hs i).length] = rs hs bs (i + 1) := by rw [ws_more, ws_len, rs_more]
      have ef : feed hs i = if 0 ≤ thing hs i then .int (thing hs i) else .str "none" := rfl
      by_cases c : 0 ≤ thing hs (i : Nat)
      · rw [if_pos c] at ef ⊢
        rw [ef] at fin oe
        refine ⟨_, rfl, .inl ⟨rfl, _, SqL.of ho4⟩, _, rfl, r2, dx2, _, rfl, hr2, (lk_past (by decide +kernel)).trans rfl, _, rfl, rfl, _, rfl, iteT ⟨_, rfl, Z, r2, L2, b, bs, ws hs i, .int (thing hs (i : Nat)), rfl, .inl ⟨_, rfl⟩, v2.row, dm4, tb4, Tb, by rw [ws_len]; omega, fun H5 sb2 x2 => ?_⟩⟩
        obtain ⟨a0, a1, a2, a3, a4, a5, a6⟩ := fin H5 sb2 x2
        refine ⟨lo, _, _, rfl, rfl, a0, by rw [rs_len]; exact small1000 (by omega), ?_⟩
        rw [oe]
        exact ⟨_, _, rfl, a1, a2, a3, a4, a5, a6⟩
      · rw [if_neg c] at ef ⊢
        rw [ef] at fin oe
        refine ⟨_, rfl, .inl ⟨rfl, _, SqL.of ho4⟩, _, rfl, r2, dx2, _, rfl, hr2, (lk_past (by decide +kernel)).trans rfl, _, rfl, rfl, _, rfl, iteF ⟨Z, r2, L2, b, bs, ws hs i, .str "none", rfl, .inr rfl, v2.row, dm4, tb4, Tb, by rw [ws_len]; omega, fun H5 sb2 x2 => ?_⟩⟩
        obtain ⟨a0, a1, a2, a3, a4, a5, a6⟩ := fin H5 sb2 x2
        refine ⟨lo, _, _, rfl, rfl, a0, by rw [rs_len]; exact small1000 (by omega), ?_⟩
        rw [oe]
        exact ⟨_, _, rfl, a1, a2, a3, a4, a5, a6⟩
    · rintro σ H' ⟨o4, o5, rfl, sH, tb, w1, w2, dm', ho⟩
      refine ⟨_, rfl, a, hs, rfl, Same.seqT sH hT, T, fun H9 t9 => ?_⟩
      have ho9 := t9 _ _ ho
      have e2m : 2 * ((mx hs : Nat) : Int) = ((2 * mx hs : Nat) : Int) := by omega
      refine ⟨_, rfl, _, rfl, _, _, rfl, rfl, .inl ⟨by decide, by decide⟩, 2 * ((mx hs : Nat) : Int), rfl, lo, _, rfl, SqL.of ho9, fun p np => ?_⟩
      rw [e2m, cut_from (by rw [rs_len]; omega), rs_end T hbk]
      refine ⟨_, rfl, _, rfl, _, _, rfl, rfl, .inl ⟨by decide, by decide⟩, _, _, rfl, rfl, ((mx hs : Nat) : Int), 2 * ((mx hs : Nat) : Int) + 5, rfl, rfl, ⟨by omega, by omega, by omega, by omega, by omega⟩, fun p2 np2 => ?_⟩
      have er : rgV ((mx hs : Nat) : Int) (2 * ((mx hs : Nat) : Int) + 5) = ((List.range (mx hs + 5)).map fun (k : Nat) => (((mx hs : Nat) : Int) + (k : Nat))).map V.int := by
        unfold rgV
        rw [show (2 * ((mx hs : Nat) : Int) + 5 - ((mx hs : Nat) : Int)).toNat = mx hs + 5 by omega, List.map_map]
        rfl
      rw [er]
      refine ⟨.list (((List.range (mx hs + 5)).map fun (k : Nat) => (((mx hs : Nat) : Int) + (k : Nat))).map PyData.int), .list (((List.range (mx hs + 5)).map fun (k : Nat) => (((mx hs : Nat) : Int) + (k : Nat))).map PyData.int), Dp.lst (SqL.of (al np2 upd_same)) (dp_ints _), Dp.lst (SqL.of upd_same) (dp_ints _), shaped_of (shp_lst (shp_ints _)) (by decide), shaped_of (shp_lst (shp_ints _)) (by decide), ?_⟩
      rw [SeqAt.eqv_refl _ (shp_lst (shp_ints _)).1]
      exact q _ (sH.trans (t9.trans ((same_upd np).trans (same_upd np2))))
end
end BA
set_option maxHeartbeats 4000000
namespace BA
open PySem PySem.Spec PyProof.Rows PyProof L2
def spLaw (K : PySem.W.Frag) : Sp := fun vs H Q _ => ∃ (a : Addr) (ns : List Int), vs = [.ref a] ∧ SqL K H a (ns.map V.int) ∧ ns.length ≤ 63 ∧ ∀ H', Q (.bl true) H'
theorem most_of (j : Nat) : ∃ m : Nat, atI ([.int 2, .int 5, .int 8] : List V) ((0 + ((j : Nat) : Int)) % 3) = some (.int (m : Nat)) ∧ 1 ≤ m ∧ m ≤ 8 := by
  have h := Nat.mod_lt j (show 3 > 0 by decide)
  have e : (0 + ((j : Nat) : Int)) % 3 = ((j % 3 : Nat) : Int) := by omega
  rw [e]
  generalize j % 3 = r at h
  match r, h with
  | 0, _ => exact ⟨2, atI_nat rfl, by decide, by decide⟩
  | 1, _ => exact ⟨5, atI_nat rfl, by decide, by decide⟩
  | 2, _ => exact ⟨8, atI_nat rfl, by decide, by decide⟩
theorem mx_small {hs : List Nat} (T : Tab hs) (h : ∀ x, x ∈ hs → x ≤ 23) : mx hs ≤ 23 := h _ (mx_mem T.pos)
section
variable {P : Program} {w : World} {K : PySem.W.Frag} {mg : Str → Option Value} {base : Heap}
theorem scLaw : FnScope ["_law_script", "_law_k", "_law_pen_here", "_law_lap", "_law_table_here"] ["_law_script"] (defScope sLaw) := ⟨rfl, rfl, rfl, by decide +kernel, rfl, by decide +kernel, by decide +kernel⟩
theorem ok_law {f : Addr} {fd : FuncData} (F : Fun K "law" "law" sLaw f fd) (B : Bl mg) (GC : Pr P w K mg base "_law_cell" sCell ["_law_script", "_law_k"] 7 (spCell K)) (GP : Pr P w K mg base "_law_pen" sPen ["_law_cell_here"] 7 spPen)
    (GT : Pr P w K mg base "_law_table" sLTable ["_law_pen_here", "_law_most", "_law_times"] 7 spLTable) (GR : Pr P w K mg base "_law_right" sRight ["_law_table_here"] 7 (spRight K)) (GB : Pr P w K mg base "_law_back_right" sBackRight ["_law_table_here"] 7 (spRight K)) :
    FnOk P w K mg base CX0 8 f fd ["_law_script"] (spLaw K) := by
  refine F.ok scLaw (fun vs H Q E h => ?_) (fun cdv A outer s H vs Q E hr h => ?_)
  · obtain ⟨a, ns, rfl, _⟩ := h
    rfl
  · obtain ⟨a, ns, rfl, hS, hl, q⟩ := h
    refine ⟨_, pss_cons (ps_for PassesOwn.never rfl (pi_range1 rfl B.range (pa_cons (pe_callB (call_max2 rfl) rfl B.max boot_max (pa_cons pe_int (pa_cons (pe_callB (call_min2 rfl) rfl B.min (by decide +kernel) (pa_cons (pe_callB call_len_seq rfl B.len PySem.boot_len (pa_cons (pv 0) pa_nil)) (pa_cons pe_int pa_nil))) pa_nil))) pa_nil)) (pg_name (i := 1) scLaw.nd rfl (Or.inl rfl))
        (pss_cons (ps_set (i := 2) scLaw.nd rfl (.inl rfl) (pe_pr GP hr (pa_cons (pe_pr GC hr (pa_cons (pv 0) (pa_cons (pv 1) pa_nil))) pa_nil)))
        (pss_one (ps_for PassesOwn.never rfl (pi_range1 rfl B.range (pa_cons pe_int pa_nil)) (pg_name (i := 3) scLaw.nd rfl (Or.inl rfl))
          (pss_cons (ps_set (i := 4) scLaw.nd rfl (.inl rfl) (pe_pr GT hr (pa_cons (pv 2) (pa_cons (pe_ix ix_list (pe_lst (pa_cons pe_int (pa_cons pe_int (pa_cons pe_int pa_nil)))) (pe_op op_mod (pv 3) pe_int) (fun _ _ => rfl)) (pa_cons pe_int pa_nil)))))
          (pss_one (ps_if (PW.pt (pw_or (pt_not (pt_val (pe_pr GR hr (pa_cons (pv 4) pa_nil)))) (pw_or1 (pt_not (pt_val (pe_pr GB hr (pa_cons (pv 4) pa_nil))))))) pss_never pss_nil)))))))
      (pss_one (ps_ret pe_bl)), ?_⟩
    have sb : ∀ {X Y : Hp} {l : Addr}, Same H X → SameBut l X Y → H l = none → Same H Y := fun s b n c o e => b c o (ne_of_none e n) (s c o e)
    refine ⟨_, rfl, a, _, rfl, .inl hS, _, _, rfl, _, _, rfl, ?_⟩
    obtain ⟨M, hM, m0, m1⟩ : ∃ M : Int, M = (if (if (3 : Int) < (((ns.map V.int).length : Nat) : Int) then (3 : Int) else (((ns.map V.int).length : Nat) : Int)) > 1 then (if (3 : Int) < (((ns.map V.int).length : Nat) : Int) then (3 : Int) else (((ns.map V.int).length : Nat) : Int)) else 1) ∧ 0 ≤ M ∧ M ≤ 63 := by
      refine ⟨_, rfl, ?_, ?_⟩ <;> (rw [List.length_map]; split <;> split at * <;> omega)
    refine ⟨_, rfl, by rw [← hM]; omega, by rw [← hM]; omega, ?_⟩
    rw [← hM]
    refine for_range (lo := 0) (n := M.toNat) (fun i σ H' => ∃ o1 o2 o3 o4, σ = [some (.ref a), o1, o2, o3, o4] ∧ Same H H') ⟨none, none, none, none, rfl, fun _ _ e => e⟩ ?_ ?_
    · rintro i σ H' hi ⟨o1, o2, o3, o4, rfl, sH⟩
      rw [Int.zero_add]
      refine ⟨_, rfl, _, rfl, a, ns, i, rfl, sH.seq hS, fun c => ⟨c, rfl, fun H1 l s1 nl P1 => ?_⟩⟩
      have fl : H l = none := sH.free nl
      refine ⟨5, rfl, by decide, by decide, ?_⟩
      refine for_range (lo := 0) (n := 5) (fun j σ H' => ∃ o3 o4, σ = [some (.ref a), some (.int ((i : Nat) : Int)), some (.ref l), o3, o4] ∧ Same H H' ∧ PenAt H' l) ⟨o3, o4, rfl, sH.trans s1, P1⟩ ?_ ?_
      · rintro j σ H2 hj ⟨o3, o4, rfl, sH2, P2⟩
        obtain ⟨m, em, hm1, hm8⟩ := most_of j
        refine ⟨_, rfl, by rw [sizeLine_eq]; exact Nat.le_of_ble_eq_true rfl, fun t nt => ?_⟩
        refine ⟨_, rfl, _, _, rfl, rfl, (by show (0 : Int) < 3; decide), t, _, _, _, rfl, rfl, SqL.of upd_same, em, l, m, rfl, P2.al nt, hm1, hm8, fun H3 p hs b3 P3 hp T l8 h23 => ?_⟩
        have s3 : Same H H3 := sb (sH2.trans (same_upd nt)) b3 fl
        refine ⟨_, rfl, p, hs, rfl, SqT.of hp, T, l8, mx_small T h23, fun H4 s4 => ⟨true, rfl, iteF ⟨_, rfl, p, hs, rfl, SqT.of (s4 _ _ hp), T, l8, mx_small T h23, fun H5 s5 => ⟨true, rfl, iteF ?_⟩⟩⟩⟩
        obtain ⟨x, y, z, e, y0, y1⟩ := P3
        exact ⟨_, _, rfl, s3.trans (s4.trans s5), ⟨x, y, z, s5 _ _ (s4 _ _ e), y0, y1⟩⟩
      · rintro σ H2 ⟨o3, o4, rfl, sH2, P2⟩
        exact ⟨_, _, _, _, rfl, sH2⟩
    · rintro σ H' ⟨o1, o2, o3, o4, rfl, sH⟩
      exact q _
end
end BA
set_option maxHeartbeats 4000000
namespace BA
open PySem PySem.Spec PyProof.Rows PyProof L2
section
variable {K : PySem.W.Frag} {h : Heap} {mg : Str → Option Value}
theorem mk_df (X : K.In h) (G : h.Ns mainGlobals mg) {x : Str} {st : Stmt} {ps : List Str} {f : Addr} {oc kV dc pm cd ct : Value} {od an : Option Addr} {sl : Array (Option Value)}
    (a : PySem.W.nsIn K mainGlobals x = some (some (.ref f))) (l : K.lookup f = some ⟨oc, od, .func (PySem.W.fnOf x x (defArgs st) (defBody st) (defScope st) .none kV dc pm an cd ct), sl⟩) (c : PySem.W.codeIn K cd x = true) (k : PySem.W.keepIn K (.ref f) = true)
    (hb : ∀ (kV doc pm : Value) (an : Option Addr) (cdv ct : Value) (us : List Value), us.length = ps.length → bindArgs (PySem.W.fnOf x x (defArgs st) (defBody st) (defScope st) .none kV doc pm an cdv ct) ⟨us, []⟩ = pure (ps.zip us)) : Df K mg x st ps :=
  ⟨f, _, PySem.W.mg_of X G a, fun_mk (st := st) l c k, (fun_mk (st := st) l c k).binds hb⟩
/-- a def of a class: where it stands -/
structure Mt (K : PySem.W.Frag) (x qual : Str) (st : Stmt) (ps : List Str) (f : Addr) : Prop where
  ex : ∃ fd : FuncData, Fun K x qual st f fd ∧ Binds K fd ps []
theorem mk_mt {x qual : Str} {st : Stmt} {ps : List Str} {f : Addr} {oc kV dc pm cd ct : Value} {od an : Option Addr} {sl : Array (Option Value)}
    (l : K.lookup f = some ⟨oc, od, .func (PySem.W.fnOf x qual (defArgs st) (defBody st) (defScope st) .none kV dc pm an cd ct), sl⟩) (c : PySem.W.codeIn K cd qual = true) (k : PySem.W.keepIn K (.ref f) = true)
    (hb : ∀ (kV doc pm : Value) (an : Option Addr) (cdv ct : Value) (us : List Value), us.length = ps.length → bindArgs (PySem.W.fnOf x qual (defArgs st) (defBody st) (defScope st) .none kV doc pm an cdv ct) ⟨us, []⟩ = pure (ps.zip us)) : Mt K x qual st ps f :=
  ⟨_, fun_mk (st := st) l c k, (fun_mk (st := st) l c k).binds hb⟩
end
end BA
set_option maxHeartbeats 4000000
namespace BA
open PySem PySem.Spec PyProof.Rows PyProof L2
/-- where the defs of the row classes stand -/
structure RowD (K : PySem.W.Frag) (fI fPu fAl fSt gT gH gI gM : Addr) : Prop where
  init : Mt K "__init__" "Row.__init__" sRowI ["self", "table"] fI
  push : Mt K "push" "Row.push" sPush ["self", "value"] fPu
  all : ∃ fd, Fun K "push_all" "Row.push_all" sPushAll fAl fd
  step : Mt K "step" "Row.step" sStep ["self", "stood", "value"] fSt
  tick : Mt K "tick" "Row.tick" sTick ["self"] gT
  held : Mt K "held" "Row.held" sRHeld ["self"] gH
  item : Mt K "__getitem__" "Row.__getitem__" sGetItem ["self", "tick"] gI
  many : Mt K "overtakings" "Counting.overtakings" BA.sOver ["self"] gM
/-- what the class C finds by its names -/
structure RowF (K : PySem.W.Frag) (C fI fPu fAl fSt fPo pT gT pH gH : Addr) : Prop where
  rc : RowC K C
  maker : Mk K C fI
  push : Meth K C "push" fPu
  all : Meth K C "push_all" fAl
  step : Meth K C "step" fSt
  put : Meth K C "put_out" fPo
  tick : PropOf K C "tick" pT gT
  held : PropOf K C "held" pH gH
structure StandF (K : PySem.W.Frag) (mg : Str → Option Value) (Cs fI : Addr) : Prop where
  sc : StandC K Cs
  maker : Mk K Cs fI
  init : Mt K "__init__" "Stand.__init__" sStandI ["self", "own"] fI
  mg_ : mg "Stand" = some (.ref Cs)
/-- where the defs of the module stand -/
structure Defs (K : PySem.W.Frag) (mg : Str → Option Value) : Prop where
  isInteger : Df K mg "is_integer" sIsInteger ["thing"]
  isBetween : Df K mg "is_between" sIsBetween ["thing", "low", "high"]
  isOnto : Df K mg "is_onto" sIsOnto ["holds"]
  isTable : Df K mg "is_table" sIsTable ["thing"]
  needTable : Df K mg "need_table" sNeedTable ["table"]
  needInteger : Df K mg "need_integer" sNeedInteger ["number"]
  holdOf : Df K mg "hold_of" sHoldOf ["table", "thing"]
  outOf : Df K mg "out_of" sOutOf ["table", "thing"]
  thingOf : Df K mg "thing_of" sThingOf ["table", "tick"]
  heldOf : Df K mg "held_of" sHeldOf ["table"]
  backOf : Df K mg "back_of" sBackOf ["table"]
  outAt : Df K mg "out_at" sOutAt ["table", "thing"]
  thingAt : Df K mg "thing_at" sThingAt ["table", "tick"]
  held : Df K mg "held" sHeld ["table"]
  delay : Df K mg "delay" sDelay ["table"]
  back : Df K mg "back" sBack ["table"]
  stateOf : Df K mg "state_of" sStateOf ["table", "tick"]
  stateAt : Df K mg "state_at" sStateAt ["table", "tick"]
  isValue : Df K mg "is_value" sIsValue ["thing"]
  needValue : Df K mg "need_value" sNeedValue ["value"]
  copied : Df K mg "copied" sCopied ["stood"]
  holdAhead : Df K mg "hold_ahead" sHoldAhead ["stood", "far"]
  holdAt : Df K mg "hold_at" sHoldAt ["table", "thing"]
  cardOf : Df K mg "card_of" sCardOf ["table", "thing"]
  cardsOf : Df K mg "cards_of" sCardsOf ["table"]
  overtakings : Df K mg "overtakings" sOvertakings ["table"]
  cell : Df K mg "_law_cell" sCell ["_law_script", "_law_k"]
  pen : Df K mg "_law_pen" sPen ["_law_cell_here"]
  draw : Df K mg "_law_draw" sDraw ["_law_pen_here", "_law_upto"]
  ltable : Df K mg "_law_table" sLTable ["_law_pen_here", "_law_most", "_law_times"]
  tickRight : Df K mg "_law_tick_right" sTickRight ["_law_box", "_law_table_here", "_law_tick"]
  right : Df K mg "_law_right" sRight ["_law_table_here"]
  backRight : Df K mg "_law_back_right" sBackRight ["_law_table_here"]
structure Cons (mg : Str → Option Value) : Prop where
  longest : ∃ t, mg "LONGEST" = some (.int 24 t)
  greatest : ∃ t, mg "GREATEST_HOLD" = some (.int 60 t)
  most : ∃ t, mg "MOST_LETTERS" = some (.int 10 t)
  letters : ∃ t, mg "LETTERS" = some (.str "abcdefghijklmnopqrstuvwxyz" t)
section
variable {P : Program} {w : World} {K : PySem.W.Frag} {mg : Str → Option Value} {base : Heap}
theorem row_of {C Cs fI fPu fAl fSt fPo pT gT pH gH gI gM fIS : Addr} {c : Bool} (R : RowF K C fI fPu fAl fSt fPo pT gT pH gH) (M : RowD K fI fPu fAl fSt gT gH gI gM) (S : StandF K mg Cs fIS) (B : Bl mg)
    (GN : Pr P w K mg base "need_table" sNeedTable ["table"] 4 (spNeedT K)) (GV : Pr P w K mg base "need_value" sNeedValue ["value"] 3 spNeedV) (GC : Pr P w K mg base "copied" sCopied ["stood"] 3 (spCopied Cs)) (GA : Pr P w K mg base "hold_ahead" sHoldAhead ["stood", "far"] 1 (spAhead K Cs))
    (FP : FnR P w K mg base CX0 3 fPo (spPut C Cs c)) : RowK P w K mg base C Cs c := by
  obtain ⟨fdI, FI, bI⟩ := M.init.ex
  obtain ⟨fdP, FPu, bP⟩ := M.push.ex
  obtain ⟨fdA, FA⟩ := M.all
  obtain ⟨fdS, FS, bS⟩ := M.step.ex
  obtain ⟨fdT, FT, bT⟩ := M.tick.ex
  obtain ⟨fdH, FH, bH⟩ := M.held.ex
  obtain ⟨fdX, FX, bX⟩ := S.init.ex
  have st := ok_step FS bS B R.rc.cl S.sc (GA.mono (by decide)) R.put FP
  have pa := ok_pushAll FA B R.rc S.sc (GV.mono (by decide)) (GC.mono (by decide)) R.step st
  have pu := ok_push FPu bP R.rc (GV.mono (by decide)) R.all pa
  have tk : FnOk P w K mg base CX0 1 gT fdT ["self"] (spTick C Cs c) := ok_tick FT B R.rc S.sc
  exact ⟨R.rc, ⟨fPu, R.push, pu⟩, ⟨pH, gH, fdH, R.held, ok_rheld FH B R.rc S.sc R.tick tk bT, bH⟩, ⟨fI, fdI, R.maker, ok_rowI FI R.rc S.sc GN FX S.maker S.mg_ bX, bI⟩⟩
theorem ok_all {C1 C2 C3 Cs fI fPu fAl fSt fR fC fL pT gT pH gH gI gM pM fIS fa : Addr} {fd : FuncData} (D : Defs K mg) (B : Bl mg) (N : Cons mg) (M : RowD K fI fPu fAl fSt gT gH gI gM) (S : StandF K mg Cs fIS)
    (R1 : RowF K C1 fI fPu fAl fSt fR pT gT pH gH) (R2 : RowF K C2 fI fPu fAl fSt fC pT gT pH gH) (R3 : RowF K C3 fI fPu fAl fSt fC pT gT pH gH)
    (PR : Mt K "put_out" "Row.put_out" sPutR ["self", "stood", "now", "found"] fR) (PC2 : SupD P K "Counting.put_out" sPutC "put_out" fC C2 fR) (PC3 : SupD P K "Counting.put_out" sPutC "put_out" fC C3 fL) (PL : SupD P K "Losing.put_out" sPutL "put_out" fL C3 fR)
    (I1 : GetIt K C1 gI) (O2 : PropOf K C2 "overtakings" pM gM) (O3 : PropOf K C3 "overtakings" pM gM) (m1 : mg "Row" = some (.ref C1)) (m2 : mg "Counting" = some (.ref C2)) (m3 : mg "LosingCounting" = some (.ref C3))
    (F : Fun K "law" "law" sLaw fa fd) : FnOk P w K mg base CX0 8 fa fd ["_law_script"] (spLaw K) := by
  obtain ⟨tL, cL⟩ := N.longest
  obtain ⟨tG, cG⟩ := N.greatest
  obtain ⟨tM, cM⟩ := N.most
  obtain ⟨tl, cl⟩ := N.letters
  have isI : Pr P w K mg base "is_integer" sIsInteger ["thing"] 1 spInt := ok_isInteger D.isInteger B
  have isB := ok_isBetween D.isBetween isI
  have isO : Pr P w K mg base "is_onto" sIsOnto ["holds"] 1 (spOnto K) := ok_isOnto D.isOnto B
  have isT := ok_isTable D.isTable B cL cG isB (isO.mono (by decide))
  have nT := ok_needTable D.needTable isT
  have nI := ok_needInteger D.needInteger isI
  have hO : Pr P w K mg base "hold_of" sHoldOf ["table", "thing"] 1 (spHold K) := ok_holdOf D.holdOf B
  have oO := ok_outOf D.outOf hO
  have tO := ok_thingOf D.thingOf oO
  have hdO : Pr P w K mg base "held_of" sHeldOf ["table"] 1 (spHeldOf K) := ok_heldOf D.heldOf B
  have oA := ok_outAt D.outAt nT (nI.mono (by decide)) (oO.mono (by decide))
  have tA := ok_thingAt D.thingAt nT (nI.mono (by decide)) (tO.mono (by decide))
  have hd := ok_held D.held nT (hdO.mono (by decide))
  have dl := ok_delay D.delay B nT
  have bO : Pr P w K mg base "back_of" sBackOf ["table"] 1 (spBack K) := ok_backOf D.backOf B
  have bk := ok_back D.back nT (bO.mono (by decide))
  have sO := ok_stateOf D.stateOf B oO
  have sA := ok_stateAt D.stateAt nT (nI.mono (by decide)) (sO.mono (by decide))
  have hA : Pr P w K mg base "hold_at" sHoldAt ["table", "thing"] 1 (spHold K) := ok_holdAt D.holdAt B
  have cO := ok_cardOf D.cardOf B hA
  have csO := ok_cardsOf D.cardsOf B cO
  have ov := ok_overtakings D.overtakings B nT (hdO.mono (by decide)) (csO.mono (by decide))
  have isV := ok_isValue D.isValue B cM cl isI
  have nV := ok_needValue D.needValue isV
  obtain ⟨fdX, FX, bX⟩ := S.init.ex
  have cp : Pr P w K mg base "copied" sCopied ["stood"] 3 (spCopied Cs) := ok_copied D.copied B S.sc FX S.maker S.mg_ bX
  have ah : Pr P w K mg base "hold_ahead" sHoldAhead ["stood", "far"] 1 (spAhead K Cs) := ok_holdAhead D.holdAhead B S.sc
  obtain ⟨fdR, FR, bR⟩ := PR.ex
  have put1 : FnR P w K mg base CX0 1 fR (spPut C1 Cs false) := ok_putR FR bR
  have put2 : FnR P w K mg base CX0 2 fC (spPut C2 Cs true) := ok_putC PC2 B R2.rc.cl S.sc (ok_putR FR bR)
  have put3 : FnR P w K mg base CX0 3 fC (spPut C3 Cs true) := ok_putC PC3 B R3.rc.cl S.sc (ok_putL PL B R3.rc.cl S.sc (ok_putR FR bR))
  have K1 : RowK P w K mg base C1 Cs false := row_of R1 M S B nT nV cp ah (put1.mono (by decide))
  have K2 : RowK P w K mg base C2 Cs true := row_of R2 M S B nT nV cp ah (put2.mono (by decide))
  have K3 : RowK P w K mg base C3 Cs true := row_of R3 M S B nT nV cp ah put3
  obtain ⟨fdT, FT, bT⟩ := M.tick.ex
  obtain ⟨fdG, FG, bG⟩ := M.item.ex
  obtain ⟨fdM, FM, bM⟩ := M.many.ex
  have tk : FnOk P w K mg base CX0 1 gT fdT ["self"] (spTick C1 Cs false) := ok_tick FT B R1.rc S.sc
  have I : ItemK P w K mg base C1 Cs false := ⟨gI, fdG, I1, ok_item FG R1.rc S.sc R1.tick tk bT isB, bG⟩
  have M2 : ManyK P w K mg base C2 Cs := ⟨pM, gM, fdM, O2, ok_many FM R2.rc S.sc, bM⟩
  have M3 : ManyK P w K mg base C3 Cs := ⟨pM, gM, fdM, O3, ok_many FM R3.rc S.sc, bM⟩
  have tr := ok_tickRight D.tickRight B K1 I tA oA dl sA hd
  have rt := ok_right D.right B K1 K2 K3 M2 M3 m1 m2 m3 tr (dl.mono (by decide)) (ov.mono (by decide))
  have br := ok_backRight D.backRight B K1 m1 (bk.mono (by decide)) (dl.mono (by decide))
  have ce : Pr P w K mg base "_law_cell" sCell ["_law_script", "_law_k"] 1 (BA.spCell K) := ok_cell D.cell B
  have pe : Pr P w K mg base "_law_pen" sPen ["_law_cell_here"] 1 spPen := ok_pen D.pen B
  have dr : Pr P w K mg base "_law_draw" sDraw ["_law_pen_here", "_law_upto"] 1 spDraw := ok_draw D.draw
  have lt := ok_ltable D.ltable B dr
  exact ok_law F B (ce.mono (by decide)) (pe.mono (by decide)) (lt.mono (by decide)) rt br
end
end BA
set_option maxHeartbeats 4000000
namespace BA
open PySem PySem.Spec PyProof.Rows PyProof L2
section
variable {K : PySem.W.Frag} {h : Heap} {mg : Str → Option Value}
theorem mk_bl (X : K.In h) (G : h.Ns mainGlobals mg) (a1 : PySem.W.nsIn K mainGlobals "isinstance" = some none) (a2 : PySem.W.nsIn K mainGlobals "int" = some none) (a3 : PySem.W.nsIn K mainGlobals "bool" = some none) (a4 : PySem.W.nsIn K mainGlobals "str" = some none)
    (a5 : PySem.W.nsIn K mainGlobals "tuple" = some none) (a6 : PySem.W.nsIn K mainGlobals "list" = some none) (a7 : PySem.W.nsIn K mainGlobals "dict" = some none) (a8 : PySem.W.nsIn K mainGlobals "len" = some none)
    (a9 : PySem.W.nsIn K mainGlobals "all" = some none) (b1 : PySem.W.nsIn K mainGlobals "sum" = some none) (b2 : PySem.W.nsIn K mainGlobals "max" = some none) (b3 : PySem.W.nsIn K mainGlobals "min" = some none)
    (b4 : PySem.W.nsIn K mainGlobals "range" = some none) (b5 : PySem.W.nsIn K mainGlobals "enumerate" = some none) (b6 : PySem.W.nsIn K mainGlobals "sorted" = some none) (b7 : PySem.W.nsIn K mainGlobals "super" = some none) : Bl mg :=
  have n : ∀ {x : Str}, PySem.W.nsIn K mainGlobals x = some none → mg x = none := fun e => PySem.W.mg_none_of X G e
  ⟨n a1, n a2, n a3, n a4, n a5, n a6, n a7, n a8, n a9, n b1, n b2, n b3, n b4, n b5, n b6, n b7⟩
theorem mk_cons (X : K.In h) (G : h.Ns mainGlobals mg) {t1 t2 t3 t4 : Tok} (a1 : PySem.W.nsIn K mainGlobals "LONGEST" = some (some (.int 24 t1))) (a2 : PySem.W.nsIn K mainGlobals "GREATEST_HOLD" = some (some (.int 60 t2)))
    (a3 : PySem.W.nsIn K mainGlobals "MOST_LETTERS" = some (some (.int 10 t3))) (a4 : PySem.W.nsIn K mainGlobals "LETTERS" = some (some (.str "abcdefghijklmnopqrstuvwxyz" t4))) : Cons mg :=
  ⟨⟨_, PySem.W.mg_of X G a1⟩, ⟨_, PySem.W.mg_of X G a2⟩, ⟨_, PySem.W.mg_of X G a3⟩, ⟨_, PySem.W.mg_of X G a4⟩⟩
theorem mk_meth {C f : Addr} {m : Str} (a : PySem.W.findIn K (.ref C) m = some (some (.ref f))) (b : PySem.W.isFn K (.ref f) = true) (c : PySem.W.keepIn K (.ref f) = true) : Meth K C m f := ⟨a, b, c⟩
theorem mk_prop {C p g : Addr} {m : Str} {rest : List Value} (a : PySem.W.findIn K (.ref C) m = some (some (.ref p))) (b : PySem.W.specialIn K (.ref p) "__get__" = some (some (.builtin "property.__get__"))) (c : PySem.W.takesIn K (.ref p) = some true) (d : PySem.W.recIn K p "property" = some (.ref g :: rest)) : PropOf K C m p g := ⟨a, b, c, ⟨_, d⟩⟩
theorem mk_no {C : Addr} {x : Str} (a : PySem.W.findIn K (.ref C) x = some none) : NoAttr K C x := a
theorem mk_mk {C f : Addr} (a : PySem.W.makesIn K C = true) (b : PySem.W.findIn K (.ref C) "__init__" = some (some (.ref f))) (c : PySem.W.isFn K (.ref f) = true) (d : PySem.W.keepIn K (.ref C) = true) : Mk K C f := ⟨a, b, c, d⟩
theorem mk_cls {C : Addr} (a : PySem.W.plainGet K C Str.empty = true) (b : PySem.W.hasDictIn K C = true) (c : PySem.W.plainOver K C = true) (d : PySem.W.findIn K (.ref C) "__setattr__" = some (some (.builtin "object.__setattr__"))) : Cls K C := ⟨a, b, c, d⟩
theorem mk_fun {x qual : Str} {st : Stmt} {f : Addr} {oc kV dc pm cd ct : Value} {od an : Option Addr} {sl : Array (Option Value)}
    (l : K.lookup f = some ⟨oc, od, .func (PySem.W.fnOf x qual (defArgs st) (defBody st) (defScope st) .none kV dc pm an cd ct), sl⟩) (c : PySem.W.codeIn K cd qual = true) (k : PySem.W.keepIn K (.ref f) = true) : ∃ fd, Fun K x qual st f fd := ⟨_, fun_mk (st := st) l c k⟩
theorem mk_sup {P : Program} {qual : Str} {st : Stmt} {m : Str} {f C f2 cda cc D : Addr} {oc : Value} {od : Option Addr} {osl : Array (Option Value)} {kV doc pm ct : Value} {an : Option Addr} {ccl cl : Value} {cdd cld : Option Addr} {vs : Array Value} {ccs csl : Array (Option Value)} {file : Str} {tf : Tok} {cdD : ClassData}
    (a1 : K.lookup f = some ⟨oc, od, .func (PySem.W.ksFn m qual (defArgs st) (defBody st) (defScope st) .none kV doc pm an (.ref cda) ct cc), osl⟩) (a2 : PySem.W.codeIn K (.ref cda) qual = true) (a3 : K.lookup cda = some ⟨ccl, cdd, .fields vs, ccs⟩) (a4 : vs[2]? = some (.str file tf)) (a5 : ((P.main.file : Str) == file) = true)
    (a6 : (P.main.scope.names.lookup ("super" : Str)).isSome = false) (a7 : K.lookup cc = some ⟨cl, cld, .cell (some (.ref D)), csl⟩) (a8 : PySem.W.clsIn K D = some cdD) (a9 : PySem.W.mroIn K C (.ref D) = some true) (b1 : PySem.W.nsIn K cStatics "thirdparty.any" = some none)
    (b2 : PySem.W.ks_superIn K C D m = some (some (.ref f2))) (b3 : PySem.W.typeIn K (.ref f2) = some (.type "function")) (b4 : PySem.W.fnIn K f2 = true) : SupD P K qual st m f C f2 :=
  ⟨_, _, _, _, _, _, _, _, _, _, _, _, _, _, _, _, _, _, _, _, _, a1, a2, a3, a4, a5, a6, a7, a8, a9, b1, b2, b3, b4⟩
theorem ok_end {l : PySem.W.OpenLaw} {w : World} {fa f4 : Addr} (X : K.In h) (G : h.Ns mainGlobals mg) (hfa : mg "law" = some (.ref fa)) {od4 an4 : Option Addr} {sl4 : Array (Option Value)} {oc4 kV4 dc4 pm4 cd4 ct4 : Value}
    (a4 : PySem.W.nsIn K mainGlobals "law" = some (some (.ref f4))) (l4 : K.lookup f4 = some ⟨oc4, od4, .func (PySem.W.fnOf "law" "law" (defArgs sLaw) (defBody sLaw) (defScope sLaw) .none kV4 dc4 pm4 an4 cd4 ct4), sl4⟩) (c4 : PySem.W.codeIn K cd4 "law" = true) (k4 : PySem.W.keepIn K (.ref f4) = true)
    {C1 C2 C3 Cs fI fPu fAl fSt fR fC fL pT gT pH gH gI gM pM fIS : Addr} (m1 : PySem.W.nsIn K mainGlobals "Row" = some (some (.ref C1))) (m2 : PySem.W.nsIn K mainGlobals "Counting" = some (some (.ref C2))) (m3 : PySem.W.nsIn K mainGlobals "LosingCounting" = some (some (.ref C3))) (S : StandF K mg Cs fIS)
    (R1 : RowF K C1 fI fPu fAl fSt fR pT gT pH gH) (R2 : RowF K C2 fI fPu fAl fSt fC pT gT pH gH) (R3 : RowF K C3 fI fPu fAl fSt fC pT gT pH gH) (I1 : GetIt K C1 gI) (O2 : PropOf K C2 "overtakings" pM gM) (O3 : PropOf K C3 "overtakings" pM gM) (M : RowD K fI fPu fAl fSt gT gH gI gM)
    (PR : Mt K "put_out" "Row.put_out" sPutR ["self", "stood", "now", "found"] fR) (PC2 : SupD l.prog K "Counting.put_out" sPutC "put_out" fC C2 fR) (PC3 : SupD l.prog K "Counting.put_out" sPutC "put_out" fC C3 fL) (PL : SupD l.prog K "Losing.put_out" sPutL "put_out" fL C3 fR)
    (B : Bl mg) (N : Cons mg) (D : Defs K mg) :
    ∃ fd : FuncData, (∀ (s : Shared) (v : Value), BindsTo s fd ⟨[v], []⟩ [("_law_script", v)]) ∧ ∀ base : Heap, K.In base → base.Ns mainGlobals mg → FnOk l.prog w K mg base CX0 8 fa fd ["_law_script"] (spLaw K) := by
  have e := hfa.symm.trans (PySem.W.mg_of X G a4)
  cases e
  exact ⟨PySem.W.fnOf "law" "law" (defArgs sLaw) (defBody sLaw) (defScope sLaw) .none kV4 dc4 pm4 an4 cd4 ct4, fun s v => .of_eq rfl, fun base _ _ => ok_all D B N M S R1 R2 R3 PR PC2 PC3 PL I1 O2 O3 (PySem.W.mg_of X G m1) (PySem.W.mg_of X G m2) (PySem.W.mg_of X G m3) (fun_mk (st := sLaw) l4 c4 k4)⟩
end
theorem walk {l : PySem.W.OpenLaw} {q : Program} {loose : List Str} {XP : (Str → Option Value) → Heap → Prop} {YP : World → Heap → Prop} {d : DefRec} {K : Params → PySem.W.Frag} (hn : l.most = some 63) (hdf : d.params.defaults = [])
    (hY : ∀ (w : World) (h : Heap), YP w h → (K w.params).In h)
    (F : ∀ (w : World) (mg : Str → Option Value) (fa : Addr) (h : Heap), (K w.params).In h → h.Ns mainGlobals mg → mg d.name = some (.ref fa) →
      ∃ fd : FuncData, (∀ (s : Shared) (u : Value), BindsTo s fd ⟨[u], []⟩ [("_law_script", u)]) ∧ ∀ base : Heap, (K w.params).In base → base.Ns mainGlobals mg → FnOk l.prog w (K w.params) mg base CX0 8 fa fd ["_law_script"] (spLaw (K w.params))) :
    PySem.W.WalkO q loose XP YP l.row.toRowW d [] (fun f vs => PySem.call f vs) :=
  L2.walk_of (n := 63) (k := 8) (x := "_law_script") (CX := fun _ => CX0) (sp := fun w => spLaw (K w.params)) hn (by decide) hdf ⟨rfl, by decide, by decide⟩ hY F (fun _ _ a ns hl _ hS => ⟨a, ns, rfl, hS, hl, fun _ => rfl⟩) fun _ _ _ _ _ z => z
end BA
set_option maxHeartbeats 0 in
open PySem PySem.W PyProof.Rows in
open_top head for PySem.Challenge.rw_burstapart_k76_whole_rows_and_tables
open PySem PySem.W PyProof.Rows in
set_option maxRecDepth 100000 in
set_option maxHeartbeats 0 in
theorem PySem.Challenge.cw_burstapart_k76_whole_rows_and_tables_holds : PySem.Challenge.rw_burstapart_k76_whole_rows_and_tables.Holds := by
  refine head ?_
  k_fill
  refine BA.walk (l := PySem.Challenge.rw_burstapart_k76_whole_rows_and_tables) rfl rfl (fun w h Y => PySem.W.kIn_of Y) ?F
  case F =>
    intro w mg fa h KX G hmg
    refine' BA.ok_end KX G hmg ?a4 ?l4 ?c4 ?k4 ?m1 ?m2 ?m3 ?S ?R1 ?R2 ?R3 ?I1 ?O2 ?O3 ?M ?PR ?PC2 ?PC3 ?PL ?B ?N ?D
    (case a4 => k_is)
    (case l4 => k_is)
    (case c4 => k_is)
    (case k4 => k_is)
    (case m1 => k_is)
    (case m2 => k_is)
    (case m3 => k_is)
    (case S =>
      refine' ⟨⟨?cl, ?n1, ?n2, ?n3, ?n4, ?n5, ?n6, ?n7, ?n8, ?n9, ?n10⟩, ?mk, ?init, PySem.W.mg_of KX G ?mg⟩
      (case mg => k_is)
      (case cl => (refine' BA.mk_cls ?a ?b ?c ?d; (case a => k_is); (case b => k_is); (case c => k_is); (case d => k_is)))
      (case n1 => (refine' BA.mk_no ?a; (case a => k_is)))
      (case n2 => (refine' BA.mk_no ?a; (case a => k_is)))
      (case n3 => (refine' BA.mk_no ?a; (case a => k_is)))
      (case n4 => (refine' BA.mk_no ?a; (case a => k_is)))
      (case n5 => (refine' BA.mk_no ?a; (case a => k_is)))
      (case n6 => (refine' BA.mk_no ?a; (case a => k_is)))
      (case n7 => (refine' BA.mk_no ?a; (case a => k_is)))
      (case n8 => (refine' BA.mk_no ?a; (case a => k_is)))
      (case n9 => (refine' BA.mk_no ?a; (case a => k_is)))
      (case n10 => (refine' BA.mk_no ?a; (case a => k_is)))
      (case mk => (refine' BA.mk_mk ?a ?b ?c ?d; (case a => k_is); (case b => k_is); (case c => k_is); (case d => k_is)))
      (case init => (refine' BA.mk_mt ?l ?c ?k (fun _ _ _ _ _ _ us hl => match us, hl with | [_, _], _ => rfl); (case l => k_is); (case c => k_is); (case k => k_is))))
    (case R1 =>
      refine' ⟨⟨?cl, ?st⟩, ?mk, ?push, ?all, ?step, ?put, ?tick, ?held⟩
      (case cl => (refine' BA.mk_cls ?a ?b ?c ?d; (case a => k_is); (case b => k_is); (case c => k_is); (case d => k_is)))
      (case st => (refine' BA.mk_no ?a; (case a => k_is)))
      (case mk => (refine' BA.mk_mk ?a ?b ?c ?d; (case a => k_is); (case b => k_is); (case c => k_is); (case d => k_is)))
      (case push => (refine' BA.mk_meth ?a ?b ?c; (case a => k_is); (case b => k_is); (case c => k_is)))
      (case all => (refine' BA.mk_meth ?a ?b ?c; (case a => k_is); (case b => k_is); (case c => k_is)))
      (case step => (refine' BA.mk_meth ?a ?b ?c; (case a => k_is); (case b => k_is); (case c => k_is)))
      (case put => (refine' BA.mk_meth ?a ?b ?c; (case a => k_is); (case b => k_is); (case c => k_is)))
      (case tick => (refine' BA.mk_prop ?a ?b ?c ?d; (case a => k_is); (case b => k_is); (case c => k_is); (case d => k_is)))
      (case held => (refine' BA.mk_prop ?a ?b ?c ?d; (case a => k_is); (case b => k_is); (case c => k_is); (case d => k_is))))
    (case R2 =>
      refine' ⟨⟨?cl, ?st⟩, ?mk, ?push, ?all, ?step, ?put, ?tick, ?held⟩
      (case cl => (refine' BA.mk_cls ?a ?b ?c ?d; (case a => k_is); (case b => k_is); (case c => k_is); (case d => k_is)))
      (case st => (refine' BA.mk_no ?a; (case a => k_is)))
      (case mk => (refine' BA.mk_mk ?a ?b ?c ?d; (case a => k_is); (case b => k_is); (case c => k_is); (case d => k_is)))
      (case push => (refine' BA.mk_meth ?a ?b ?c; (case a => k_is); (case b => k_is); (case c => k_is)))
      (case all => (refine' BA.mk_meth ?a ?b ?c; (case a => k_is); (case b => k_is); (case c => k_is)))
      (case step => (refine' BA.mk_meth ?a ?b ?c; (case a => k_is); (case b => k_is); (case c => k_is)))
      (case put => (refine' BA.mk_meth ?a ?b ?c; (case a => k_is); (case b => k_is); (case c => k_is)))
      (case tick => (refine' BA.mk_prop ?a ?b ?c ?d; (case a => k_is); (case b => k_is); (case c => k_is); (case d => k_is)))
      (case held => (refine' BA.mk_prop ?a ?b ?c ?d; (case a => k_is); (case b => k_is); (case c => k_is); (case d => k_is))))
    (case R3 =>
      refine' ⟨⟨?cl, ?st⟩, ?mk, ?push, ?all, ?step, ?put, ?tick, ?held⟩
      (case cl => (refine' BA.mk_cls ?a ?b ?c ?d; (case a => k_is); (case b => k_is); (case c => k_is); (case d => k_is)))
      (case st => (refine' BA.mk_no ?a; (case a => k_is)))
      (case mk => (refine' BA.mk_mk ?a ?b ?c ?d; (case a => k_is); (case b => k_is); (case c => k_is); (case d => k_is)))
      (case push => (refine' BA.mk_meth ?a ?b ?c; (case a => k_is); (case b => k_is); (case c => k_is)))
      (case all => (refine' BA.mk_meth ?a ?b ?c; (case a => k_is); (case b => k_is); (case c => k_is)))
      (case step => (refine' BA.mk_meth ?a ?b ?c; (case a => k_is); (case b => k_is); (case c => k_is)))
      (case put => (refine' BA.mk_meth ?a ?b ?c; (case a => k_is); (case b => k_is); (case c => k_is)))
      (case tick => (refine' BA.mk_prop ?a ?b ?c ?d; (case a => k_is); (case b => k_is); (case c => k_is); (case d => k_is)))
      (case held => (refine' BA.mk_prop ?a ?b ?c ?d; (case a => k_is); (case b => k_is); (case c => k_is); (case d => k_is))))
    (case I1 => (refine' ⟨?a, ?b, ?c⟩; (case a => k_is); (case b => k_is); (case c => k_is)))
    (case O2 => (refine' BA.mk_prop ?a ?b ?c ?d; (case a => k_is); (case b => k_is); (case c => k_is); (case d => k_is)))
    (case O3 => (refine' BA.mk_prop ?a ?b ?c ?d; (case a => k_is); (case b => k_is); (case c => k_is); (case d => k_is)))
    (case M =>
      refine' ⟨?init, ?push, ?all, ?step, ?tick, ?held, ?item, ?many⟩
      (case init => (refine' BA.mk_mt ?l ?c ?k (fun _ _ _ _ _ _ us hl => match us, hl with | [_, _], _ => rfl); (case l => k_is); (case c => k_is); (case k => k_is)))
      (case push => (refine' BA.mk_mt ?l ?c ?k (fun _ _ _ _ _ _ us hl => match us, hl with | [_, _], _ => rfl); (case l => k_is); (case c => k_is); (case k => k_is)))
      (case all => (refine' BA.mk_fun ?l ?c ?k; (case l => k_is); (case c => k_is); (case k => k_is)))
      (case step => (refine' BA.mk_mt ?l ?c ?k (fun _ _ _ _ _ _ us hl => match us, hl with | [_, _, _], _ => rfl); (case l => k_is); (case c => k_is); (case k => k_is)))
      (case tick => (refine' BA.mk_mt ?l ?c ?k (fun _ _ _ _ _ _ us hl => match us, hl with | [_], _ => rfl); (case l => k_is); (case c => k_is); (case k => k_is)))
      (case held => (refine' BA.mk_mt ?l ?c ?k (fun _ _ _ _ _ _ us hl => match us, hl with | [_], _ => rfl); (case l => k_is); (case c => k_is); (case k => k_is)))
      (case item => (refine' BA.mk_mt ?l ?c ?k (fun _ _ _ _ _ _ us hl => match us, hl with | [_, _], _ => rfl); (case l => k_is); (case c => k_is); (case k => k_is)))
      (case many => (refine' BA.mk_mt ?l ?c ?k (fun _ _ _ _ _ _ us hl => match us, hl with | [_], _ => rfl); (case l => k_is); (case c => k_is); (case k => k_is))))
    (case PR => (refine' BA.mk_mt ?l ?c ?k (fun _ _ _ _ _ _ us hl => match us, hl with | [_, _, _, _], _ => rfl); (case l => k_is); (case c => k_is); (case k => k_is)))
    (case PC2 =>
      refine' BA.mk_sup ?a1 ?a2 ?a3 ?a4 ?a5 ?a6 ?a7 ?a8 ?a9 ?b1 ?b2 ?b3 ?b4
      (case a1 => k_is)
      (case a2 => k_is)
      (case a3 => k_is)
      (case a4 => rfl)
      (case a5 => decide +kernel)
      (case a6 => decide +kernel)
      (case a7 => k_is)
      (case a8 => k_is)
      (case a9 => k_is)
      (case b1 => k_is)
      (case b2 => ks_is)
      (case b3 => k_is)
      (case b4 => k_is))
    (case PC3 =>
      refine' BA.mk_sup ?a1 ?a2 ?a3 ?a4 ?a5 ?a6 ?a7 ?a8 ?a9 ?b1 ?b2 ?b3 ?b4
      (case a1 => k_is)
      (case a2 => k_is)
      (case a3 => k_is)
      (case a4 => rfl)
      (case a5 => decide +kernel)
      (case a6 => decide +kernel)
      (case a7 => k_is)
      (case a8 => k_is)
      (case a9 => k_is)
      (case b1 => k_is)
      (case b2 => ks_is)
      (case b3 => k_is)
      (case b4 => k_is))
    (case PL =>
      refine' BA.mk_sup ?a1 ?a2 ?a3 ?a4 ?a5 ?a6 ?a7 ?a8 ?a9 ?b1 ?b2 ?b3 ?b4
      (case a1 => k_is)
      (case a2 => k_is)
      (case a3 => k_is)
      (case a4 => rfl)
      (case a5 => decide +kernel)
      (case a6 => decide +kernel)
      (case a7 => k_is)
      (case a8 => k_is)
      (case a9 => k_is)
      (case b1 => k_is)
      (case b2 => ks_is)
      (case b3 => k_is)
      (case b4 => k_is))
    (case B =>
      refine' BA.mk_bl KX G ?a1 ?a2 ?a3 ?a4 ?a5 ?a6 ?a7 ?a8 ?a9 ?b1 ?b2 ?b3 ?b4 ?b5 ?b6 ?b7
      (case a1 => k_is)
      (case a2 => k_is)
      (case a3 => k_is)
      (case a4 => k_is)
      (case a5 => k_is)
      (case a6 => k_is)
      (case a7 => k_is)
      (case a8 => k_is)
      (case a9 => k_is)
      (case b1 => k_is)
      (case b2 => k_is)
      (case b3 => k_is)
      (case b4 => k_is)
      (case b5 => k_is)
      (case b6 => k_is)
      (case b7 => k_is))
    (case N => (refine' BA.mk_cons KX G ?a1 ?a2 ?a3 ?a4; (case a1 => k_is); (case a2 => k_is); (case a3 => k_is); (case a4 => k_is)))
    (case D =>
      refine' ⟨?d0, ?d1, ?d2, ?d3, ?d4, ?d5, ?d6, ?d7, ?d8, ?d9, ?d10, ?d11, ?d12, ?d13, ?d14, ?d15, ?d16, ?d17, ?d18, ?d19, ?d20, ?d21, ?d22, ?d23, ?d24, ?d25, ?d26, ?d27, ?d28, ?d29, ?d30, ?d31, ?d32⟩
      (case d0 => (refine' BA.mk_df KX G ?a ?l ?c ?k (fun _ _ _ _ _ _ us hl => match us, hl with | [_], _ => rfl); (case a => k_is); (case l => k_is); (case c => k_is); (case k => k_is)))
      (case d1 => (refine' BA.mk_df KX G ?a ?l ?c ?k (fun _ _ _ _ _ _ us hl => match us, hl with | [_, _, _], _ => rfl); (case a => k_is); (case l => k_is); (case c => k_is); (case k => k_is)))
      (case d2 => (refine' BA.mk_df KX G ?a ?l ?c ?k (fun _ _ _ _ _ _ us hl => match us, hl with | [_], _ => rfl); (case a => k_is); (case l => k_is); (case c => k_is); (case k => k_is)))
      (case d3 => (refine' BA.mk_df KX G ?a ?l ?c ?k (fun _ _ _ _ _ _ us hl => match us, hl with | [_], _ => rfl); (case a => k_is); (case l => k_is); (case c => k_is); (case k => k_is)))
      (case d4 => (refine' BA.mk_df KX G ?a ?l ?c ?k (fun _ _ _ _ _ _ us hl => match us, hl with | [_], _ => rfl); (case a => k_is); (case l => k_is); (case c => k_is); (case k => k_is)))
      (case d5 => (refine' BA.mk_df KX G ?a ?l ?c ?k (fun _ _ _ _ _ _ us hl => match us, hl with | [_], _ => rfl); (case a => k_is); (case l => k_is); (case c => k_is); (case k => k_is)))
      (case d6 => (refine' BA.mk_df KX G ?a ?l ?c ?k (fun _ _ _ _ _ _ us hl => match us, hl with | [_, _], _ => rfl); (case a => k_is); (case l => k_is); (case c => k_is); (case k => k_is)))
      (case d7 => (refine' BA.mk_df KX G ?a ?l ?c ?k (fun _ _ _ _ _ _ us hl => match us, hl with | [_, _], _ => rfl); (case a => k_is); (case l => k_is); (case c => k_is); (case k => k_is)))
      (case d8 => (refine' BA.mk_df KX G ?a ?l ?c ?k (fun _ _ _ _ _ _ us hl => match us, hl with | [_, _], _ => rfl); (case a => k_is); (case l => k_is); (case c => k_is); (case k => k_is)))
      (case d9 => (refine' BA.mk_df KX G ?a ?l ?c ?k (fun _ _ _ _ _ _ us hl => match us, hl with | [_], _ => rfl); (case a => k_is); (case l => k_is); (case c => k_is); (case k => k_is)))
      (case d10 => (refine' BA.mk_df KX G ?a ?l ?c ?k (fun _ _ _ _ _ _ us hl => match us, hl with | [_], _ => rfl); (case a => k_is); (case l => k_is); (case c => k_is); (case k => k_is)))
      (case d11 => (refine' BA.mk_df KX G ?a ?l ?c ?k (fun _ _ _ _ _ _ us hl => match us, hl with | [_, _], _ => rfl); (case a => k_is); (case l => k_is); (case c => k_is); (case k => k_is)))
      (case d12 => (refine' BA.mk_df KX G ?a ?l ?c ?k (fun _ _ _ _ _ _ us hl => match us, hl with | [_, _], _ => rfl); (case a => k_is); (case l => k_is); (case c => k_is); (case k => k_is)))
      (case d13 => (refine' BA.mk_df KX G ?a ?l ?c ?k (fun _ _ _ _ _ _ us hl => match us, hl with | [_], _ => rfl); (case a => k_is); (case l => k_is); (case c => k_is); (case k => k_is)))
      (case d14 => (refine' BA.mk_df KX G ?a ?l ?c ?k (fun _ _ _ _ _ _ us hl => match us, hl with | [_], _ => rfl); (case a => k_is); (case l => k_is); (case c => k_is); (case k => k_is)))
      (case d15 => (refine' BA.mk_df KX G ?a ?l ?c ?k (fun _ _ _ _ _ _ us hl => match us, hl with | [_], _ => rfl); (case a => k_is); (case l => k_is); (case c => k_is); (case k => k_is)))
      (case d16 => (refine' BA.mk_df KX G ?a ?l ?c ?k (fun _ _ _ _ _ _ us hl => match us, hl with | [_, _], _ => rfl); (case a => k_is); (case l => k_is); (case c => k_is); (case k => k_is)))
      (case d17 => (refine' BA.mk_df KX G ?a ?l ?c ?k (fun _ _ _ _ _ _ us hl => match us, hl with | [_, _], _ => rfl); (case a => k_is); (case l => k_is); (case c => k_is); (case k => k_is)))
      (case d18 => (refine' BA.mk_df KX G ?a ?l ?c ?k (fun _ _ _ _ _ _ us hl => match us, hl with | [_], _ => rfl); (case a => k_is); (case l => k_is); (case c => k_is); (case k => k_is)))
      (case d19 => (refine' BA.mk_df KX G ?a ?l ?c ?k (fun _ _ _ _ _ _ us hl => match us, hl with | [_], _ => rfl); (case a => k_is); (case l => k_is); (case c => k_is); (case k => k_is)))
      (case d20 => (refine' BA.mk_df KX G ?a ?l ?c ?k (fun _ _ _ _ _ _ us hl => match us, hl with | [_], _ => rfl); (case a => k_is); (case l => k_is); (case c => k_is); (case k => k_is)))
      (case d21 => (refine' BA.mk_df KX G ?a ?l ?c ?k (fun _ _ _ _ _ _ us hl => match us, hl with | [_, _], _ => rfl); (case a => k_is); (case l => k_is); (case c => k_is); (case k => k_is)))
      (case d22 => (refine' BA.mk_df KX G ?a ?l ?c ?k (fun _ _ _ _ _ _ us hl => match us, hl with | [_, _], _ => rfl); (case a => k_is); (case l => k_is); (case c => k_is); (case k => k_is)))
      (case d23 => (refine' BA.mk_df KX G ?a ?l ?c ?k (fun _ _ _ _ _ _ us hl => match us, hl with | [_, _], _ => rfl); (case a => k_is); (case l => k_is); (case c => k_is); (case k => k_is)))
      (case d24 => (refine' BA.mk_df KX G ?a ?l ?c ?k (fun _ _ _ _ _ _ us hl => match us, hl with | [_], _ => rfl); (case a => k_is); (case l => k_is); (case c => k_is); (case k => k_is)))
      (case d25 => (refine' BA.mk_df KX G ?a ?l ?c ?k (fun _ _ _ _ _ _ us hl => match us, hl with | [_], _ => rfl); (case a => k_is); (case l => k_is); (case c => k_is); (case k => k_is)))
      (case d26 => (refine' BA.mk_df KX G ?a ?l ?c ?k (fun _ _ _ _ _ _ us hl => match us, hl with | [_, _], _ => rfl); (case a => k_is); (case l => k_is); (case c => k_is); (case k => k_is)))
      (case d27 => (refine' BA.mk_df KX G ?a ?l ?c ?k (fun _ _ _ _ _ _ us hl => match us, hl with | [_], _ => rfl); (case a => k_is); (case l => k_is); (case c => k_is); (case k => k_is)))
      (case d28 => (refine' BA.mk_df KX G ?a ?l ?c ?k (fun _ _ _ _ _ _ us hl => match us, hl with | [_, _], _ => rfl); (case a => k_is); (case l => k_is); (case c => k_is); (case k => k_is)))
      (case d29 => (refine' BA.mk_df KX G ?a ?l ?c ?k (fun _ _ _ _ _ _ us hl => match us, hl with | [_, _, _], _ => rfl); (case a => k_is); (case l => k_is); (case c => k_is); (case k => k_is)))
      (case d30 => (refine' BA.mk_df KX G ?a ?l ?c ?k (fun _ _ _ _ _ _ us hl => match us, hl with | [_, _, _], _ => rfl); (case a => k_is); (case l => k_is); (case c => k_is); (case k => k_is)))
      (case d31 => (refine' BA.mk_df KX G ?a ?l ?c ?k (fun _ _ _ _ _ _ us hl => match us, hl with | [_], _ => rfl); (case a => k_is); (case l => k_is); (case c => k_is); (case k => k_is)))
      (case d32 => (refine' BA.mk_df KX G ?a ?l ?c ?k (fun _ _ _ _ _ _ us hl => match us, hl with | [_], _ => rfl); (case a => k_is); (case l => k_is); (case c => k_is); (case k => k_is))))
