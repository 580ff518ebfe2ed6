import PyProof.Rows.All
import Wide.All
import OpenK.AllK
import Wide.FinOn
import PyProof.ReprLen
import PyProof.ReprRoads
import HandS.ForMost
import HandS.ForExc
import HandS.Gcd
import HandS.CallLocal
import HandS.Property
import HandS.IsInst
import KE.KExcInit
import HandS.ExcInit
import HandS.Walk
import HandS.Ends
import PySem.Challenge.RW_leadrules_k13_whole_tables_made_of_two
set_option Elab.async false
set_option autoImplicit false
/-! Plain mathematics of k13: rules told by lists, common lengths, first days, shortest lists. No program in sight. -/
namespace K13

/-- what a list of days serves on a day -/
def On (ds : List Int) (x : Int) : Int := ds.getD (x % (ds.length : Int)).toNat 0 + x / (ds.length : Int) * (ds.length : Int)

structure Tab (ds : List Int) : Prop where
  pos : 1 ≤ ds.length
  most : ds.length ≤ 600
  mono : ∀ i : Nat, i + 1 < ds.length → ds.getD i 0 ≤ ds.getD (i + 1) 0
  top : ds.getD (ds.length - 1) 0 ≤ ds.getD 0 0 + (ds.length : Int)

def Per (f : Int → Int) (l : Int) : Prop := ∀ x, f (x + l) = f x + l
def Mono (f : Int → Int) : Prop := ∀ x y, x ≤ y → f x ≤ f y
def Lead (M : Int) (f : Int → Int) : Prop := ∀ x, x - M ≤ f x ∧ f x ≤ x + M

theorem div_of {x L q r : Int} (hr0 : 0 ≤ r) (hr : r < L) (e : x = r + q * L) : x / L = q ∧ x % L = r := by
  have hL : 0 < L := by omega
  subst e
  constructor
  · rw [Int.add_mul_ediv_right _ _ (by omega), Int.ediv_eq_zero_of_lt hr0 hr]
    omega
  · rw [Int.add_mul_emod_self_right, Int.emod_eq_of_lt hr0 hr]
theorem split_of {x L : Int} (hL : 0 < L) : 0 ≤ x % L ∧ x % L < L ∧ x = x % L + x / L * L := by
  refine ⟨Int.emod_nonneg _ (by omega), Int.emod_lt_of_pos _ hL, ?_⟩
  have h := Int.emod_add_mul_ediv x L
  rw [Int.mul_comm] at h
  omega
theorem on_at {ds : List Int} {r q : Int} (hr0 : 0 ≤ r) (hr : r < (ds.length : Int)) : On ds (r + q * (ds.length : Int)) = ds.getD r.toNat 0 + q * (ds.length : Int) := by
  obtain ⟨h1, h2⟩ := div_of (x := r + q * (ds.length : Int)) hr0 hr rfl
  unfold On
  rw [h1, h2]
theorem on_low {ds : List Int} {r : Int} (hr0 : 0 ≤ r) (hr : r < (ds.length : Int)) : On ds r = ds.getD r.toNat 0 := by
  have h := on_at (ds := ds) (q := 0) hr0 hr
  rw [Int.zero_mul, Int.add_zero, Int.add_zero] at h
  exact h
theorem on_nat {ds : List Int} {r : Nat} (hr : r < ds.length) : On ds (r : Int) = ds.getD r 0 := by
  rw [on_low (by omega) (by omega)]
  rfl
theorem on_per {ds : List Int} (h : 1 ≤ ds.length) : Per (On ds) (ds.length : Int) := by
  intro x
  obtain ⟨h1, h2, h3⟩ := split_of (x := x) (L := (ds.length : Int)) (by omega)
  have e1 : x + (ds.length : Int) = x % (ds.length : Int) + (x / (ds.length : Int) + 1) * (ds.length : Int) := by
    rw [Int.add_mul, Int.one_mul]
    omega
  rw [e1, on_at h1 h2]
  have e2 : On ds x = ds.getD (x % (ds.length : Int)).toNat 0 + x / (ds.length : Int) * (ds.length : Int) := rfl
  rw [e2, Int.add_mul, Int.one_mul]
  omega
theorem Per.zero (f : Int → Int) : Per f 0 := fun x => by rw [Int.add_zero, Int.add_zero]
theorem Per.add {f : Int → Int} {a b : Int} (ha : Per f a) (hb : Per f b) : Per f (a + b) := fun x => by
  have e : x + (a + b) = (x + a) + b := by omega
  rw [e, hb, ha]
  omega
theorem Per.neg {f : Int → Int} {a : Int} (ha : Per f a) : Per f (-a) := fun x => by
  have h := ha (x + -a)
  have e : x + -a + a = x := by omega
  rw [e] at h
  omega
theorem Per.sub {f : Int → Int} {a b : Int} (ha : Per f a) (hb : Per f b) : Per f (a - b) := by
  have h := ha.add hb.neg
  rw [show a + -b = a - b by omega] at h
  exact h
theorem Per.mulN {f : Int → Int} {a : Int} (ha : Per f a) : ∀ n : Nat, Per f ((n : Int) * a)
  | 0 => by
    rw [show ((0 : Nat) : Int) * a = 0 by rw [Int.natCast_zero, Int.zero_mul]]
    exact Per.zero f
  | n + 1 => by
    have h := (Per.mulN ha n).add ha
    rw [show ((n + 1 : Nat) : Int) * a = (n : Int) * a + a by rw [Int.natCast_add, Int.add_mul]; simp]
    exact h
theorem Per.mul {f : Int → Int} {a : Int} (ha : Per f a) (k : Int) : Per f (k * a) := by
  by_cases h : 0 ≤ k
  · obtain ⟨n, rfl⟩ := Int.eq_ofNat_of_zero_le h
    exact ha.mulN n
  · obtain ⟨n, e⟩ := Int.eq_ofNat_of_zero_le (show 0 ≤ -k by omega)
    have h2 := (ha.mulN n).neg
    rw [show -((n : Int) * a) = k * a by rw [← e, Int.neg_mul, Int.neg_neg]] at h2
    exact h2
theorem Per.dvd {f : Int → Int} {a b : Int} (ha : Per f a) (h : a ∣ b) : Per f b := by
  obtain ⟨k, rfl⟩ := h
  rw [Int.mul_comm]
  exact ha.mul k
theorem Per.mod {f : Int → Int} {a b : Nat} (ha : Per f (a : Int)) (hb : Per f (b : Int)) : Per f ((b % a : Nat) : Int) := by
  have h := hb.sub (ha.mul ((b / a : Nat) : Int))
  have e : ((b % a : Nat) : Int) = (b : Int) - ((b / a : Nat) : Int) * (a : Int) := by
    have q := Nat.mod_add_div b a
    have q2 : ((b % a : Nat) : Int) + ((a * (b / a) : Nat) : Int) = (b : Int) := by
      rw [← Int.natCast_add, q]
    rw [Int.natCast_mul, Int.mul_comm] at q2
    omega
  rw [e]
  exact h
theorem Per.gcd {f : Int → Int} (a b : Nat) : Per f (a : Int) → Per f (b : Int) → Per f ((Nat.gcd a b : Nat) : Int) := by
  induction a, b using Nat.gcd.induction with
  | H0 n =>
    intro _ hb
    rw [Nat.gcd_zero_left]
    exact hb
  | H1 m n hm ih =>
    intro ha hb
    rw [Nat.gcd_rec]
    exact ih (ha.mod hb) ha

/-! ### lists made by reckoning -/
def tabF (f : Int → Int) (n : Nat) : List Int := (List.range n).map fun i : Nat => f (i : Int)
theorem tabF_len (f : Int → Int) (n : Nat) : (tabF f n).length = n := by simp [tabF]
theorem tabF_at {f : Int → Int} {n i : Nat} (h : i < n) : (tabF f n)[i]? = some (f (i : Int)) := by
  simp [tabF, List.getElem?_range h]
theorem tabF_getD {f : Int → Int} {n i : Nat} (h : i < n) : (tabF f n).getD i 0 = f (i : Int) := by
  rw [List.getD_eq_getElem?_getD, tabF_at h]
  rfl
theorem tabF_succ (f : Int → Int) (n : Nat) : tabF f (n + 1) = tabF f n ++ [f (n : Int)] := by
  simp [tabF, List.range_succ]
theorem tabF_congr {f g : Int → Int} {n : Nat} (h : ∀ i : Nat, i < n → f (i : Int) = g (i : Int)) : tabF f n = tabF g n := by
  unfold tabF
  refine List.map_congr_left fun i hi => h i (List.mem_range.mp hi)
theorem tabF_mem {f : Int → Int} {n : Nat} {v : Int} (h : v ∈ tabF f n) : ∃ i : Nat, i < n ∧ v = f (i : Int) := by
  unfold tabF at h
  obtain ⟨i, hi, e⟩ := List.mem_map.mp h
  exact ⟨i, List.mem_range.mp hi, e.symm⟩
theorem on_tab {f : Int → Int} {n : Nat} (hn : 1 ≤ n) (hp : Per f (n : Int)) (x : Int) : On (tabF f n) x = f x := by
  obtain ⟨h1, h2, h3⟩ := split_of (x := x) (L := (n : Int)) (by omega)
  have hl : ((tabF f n).length : Int) = (n : Int) := by rw [tabF_len]
  have e : On (tabF f n) (x % (n : Int) + x / (n : Int) * ((tabF f n).length : Int)) = (tabF f n).getD (x % (n : Int)).toNat 0 + x / (n : Int) * ((tabF f n).length : Int) := on_at h1 (by rw [hl]; exact h2)
  rw [hl, ← h3] at e
  rw [e, tabF_getD (by omega), show (((x % (n : Int)).toNat : Nat) : Int) = x % (n : Int) by omega]
  have h4 := hp.mul (x / (n : Int)) (x % (n : Int))
  rw [← h3] at h4
  exact h4.symm
theorem tab_ok {f : Int → Int} {n : Nat} (hn : 1 ≤ n) (hm : n ≤ 600) (hf : Mono f) (hp : Per f (n : Int)) : Tab (tabF f n) where
  pos := by rw [tabF_len]; exact hn
  most := by rw [tabF_len]; exact hm
  mono := fun i hi => by
    rw [tabF_len] at hi
    rw [tabF_getD (by omega), tabF_getD hi]
    exact hf _ _ (by omega)
  top := by
    rw [tabF_len, tabF_getD (by omega), tabF_getD (by omega)]
    have h := hp 0
    have h2 := hf ((n - 1 : Nat) : Int) (0 + (n : Int)) (by omega)
    rw [h] at h2
    exact h2
theorem tab_self {ds : List Int} : tabF (On ds) ds.length = ds := by
  refine List.ext_getElem? fun i => ?_
  by_cases h : i < ds.length
  · rw [tabF_at h, on_nat h, List.getD_eq_getElem?_getD, List.getElem?_eq_getElem h]
    rfl
  · rw [List.getElem?_eq_none (by rw [tabF_len]; omega), List.getElem?_eq_none (by omega)]
theorem mono_at {ds : List Int} (h : Tab ds) : ∀ (k i : Nat), i + k < ds.length → ds.getD i 0 ≤ ds.getD (i + k) 0
  | 0, _, _ => Int.le_refl _
  | k + 1, i, hi => Int.le_trans (mono_at h k i (by omega)) (h.mono (i + k) (by omega))
theorem Tab.on_mono {ds : List Int} (h : Tab ds) : Mono (On ds) := by
  intro x y hxy
  have hL : 0 < (ds.length : Int) := by have := h.pos; omega
  obtain ⟨a1, a2, a3⟩ := split_of (x := x) (L := (ds.length : Int)) hL
  obtain ⟨b1, b2, b3⟩ := split_of (x := y) (L := (ds.length : Int)) hL
  show ds.getD (x % (ds.length : Int)).toNat 0 + x / (ds.length : Int) * (ds.length : Int) ≤ ds.getD (y % (ds.length : Int)).toNat 0 + y / (ds.length : Int) * (ds.length : Int)
  have hq : x / (ds.length : Int) ≤ y / (ds.length : Int) := Int.ediv_le_ediv hL hxy
  generalize x / (ds.length : Int) = q at *
  generalize y / (ds.length : Int) = p at *
  generalize hr : x % (ds.length : Int) = r at *
  generalize hs : y % (ds.length : Int) = s at *
  by_cases e : q = p
  · subst e
    have h4 := mono_at h (s.toNat - r.toNat) r.toNat (by omega)
    rw [show r.toNat + (s.toNat - r.toNat) = s.toNat by omega] at h4
    omega
  · have h5 : (q + 1) * (ds.length : Int) ≤ p * (ds.length : Int) := Int.mul_le_mul_of_nonneg_right (by omega) (by omega)
    rw [Int.add_mul, Int.one_mul] at h5
    have h6 := mono_at h (ds.length - 1 - r.toNat) r.toNat (by omega)
    rw [show r.toNat + (ds.length - 1 - r.toNat) = ds.length - 1 by omega] at h6
    have h7 := mono_at h s.toNat 0 (by omega)
    rw [Nat.zero_add] at h7
    have h8 := h.top
    omega
theorem Tab.on_per {ds : List Int} (h : Tab ds) : Per (On ds) (ds.length : Int) := K13.on_per h.pos

/-! ### first days -/
def IsBy (f : Int → Int) (y m : Int) : Prop := ∀ x, m ≤ x ↔ y ≤ f x
theorem IsBy.one {f : Int → Int} {y m m' : Int} (h : IsBy f y m) (h' : IsBy f y m') : m = m' := by
  have a := (h m).mp (Int.le_refl _)
  have b := (h' m').mp (Int.le_refl _)
  have c := (h' m).mpr a
  have d := (h m').mpr b
  omega
theorem isBy_of {f : Int → Int} (hf : Mono f) {y m : Int} (h1 : y ≤ f m) (h2 : f (m - 1) < y) : IsBy f y m := fun x => by
  constructor
  · intro h
    exact Int.le_trans h1 (hf _ _ h)
  · intro h
    refine Int.not_lt.mp fun q => ?_
    have := hf x (m - 1) (by omega)
    omega
theorem by_search {f : Int → Int} (hf : Mono f) (y : Int) : ∀ (k : Nat) (lo : Int), f lo < y → y ≤ f (lo + (k : Int)) → ∃ m, IsBy f y m
  | 0, lo, h1, h2 => by
    rw [show lo + ((0 : Nat) : Int) = lo by omega] at h2
    omega
  | k + 1, lo, h1, h2 => by
    by_cases h : y ≤ f (lo + 1)
    · exact ⟨lo + 1, isBy_of hf h (by rw [show lo + 1 - 1 = lo by omega]; exact h1)⟩
    · refine by_search hf y k (lo + 1) (by omega) ?_
      rw [show lo + 1 + (k : Int) = lo + ((k + 1 : Nat) : Int) by omega]
      exact h2
theorem by_there {f : Int → Int} (hf : Mono f) {M : Int} (hM : Lead M f) (y : Int) : ∃ m, IsBy f y m := by
  have h0 := hM 0
  have h1 := hM (y - M - 1)
  have h2 := hM (y + M)
  refine by_search hf y ((y + M) - (y - M - 1)).toNat (y - M - 1) (by omega) ?_
  rw [show y - M - 1 + ((((y + M) - (y - M - 1)).toNat : Nat) : Int) = y + M by omega]
  omega
noncomputable def By (f : Int → Int) (y : Int) : Int := Classical.epsilon fun m => IsBy f y m
noncomputable def Til (f : Int → Int) (y : Int) : Int := By f (y + 1) - 1

/-- a rule of a length, never farther than M -/
structure Rule (M : Int) (n : Nat) (f : Int → Int) : Prop where
  n1 : 1 ≤ n
  mono : Mono f
  per : Per f (n : Int)
  lead : Lead M f
section
variable {M M' : Int} {n k : Nat} {f g : Int → Int}
theorem Rule.by_is (h : Rule M n f) (y : Int) : IsBy f y (By f y) := Classical.epsilon_spec (p := fun m => IsBy f y m) (by_there h.mono h.lead y)
theorem Rule.by_eq (h : Rule M n f) {y m : Int} (q : IsBy f y m) : By f y = m := (h.by_is y).one q
theorem Rule.byR (h : Rule M n f) : Rule M n (By f) where
  n1 := h.n1
  mono := fun x y hxy => by
    have a := (h.by_is y (By f y)).mp (Int.le_refl _)
    exact (h.by_is x (By f y)).mpr (Int.le_trans hxy a)
  per := fun y => by
    refine h.by_eq fun x => ?_
    have a := h.by_is y (x - (n : Int))
    have b := h.per (x - (n : Int))
    rw [show x - (n : Int) + (n : Int) = x by omega] at b
    constructor
    · intro z
      have := a.mp (by omega)
      omega
    · intro z
      have := a.mpr (by omega)
      omega
  lead := fun y => by
    have a := (h.by_is y (By f y)).mp (Int.le_refl _)
    have b := h.lead (By f y)
    have c := h.lead (By f y - 1)
    have d : ¬ y ≤ f (By f y - 1) := fun q => by
      have := (h.by_is y (By f y - 1)).mpr q
      omega
    omega
theorem Rule.tilR (h : Rule M n f) : Rule M n (Til f) where
  n1 := h.n1
  mono := fun x y hxy => by
    have := h.byR.mono (x + 1) (y + 1) (by omega)
    unfold Til
    omega
  per := fun y => by
    have := h.byR.per (y + 1)
    rw [show y + 1 + (n : Int) = y + (n : Int) + 1 by omega] at this
    unfold Til
    omega
  lead := fun y => by
    have a := h.by_is (y + 1) (By f (y + 1))
    have := h.byR.lead (y + 1)
    have b := (h.by_is (y + 1) (y + 1 + M)).mpr (by have := h.lead (y + 1 + M); omega)
    unfold Til
    omega
theorem Rule.til_le (h : Rule M n f) (x y : Int) : x ≤ Til f y ↔ f x ≤ y := by
  have a := h.by_is (y + 1) x
  unfold Til
  constructor
  · intro q
    refine Int.not_lt.mp fun z => ?_
    have := a.mpr (by omega)
    omega
  · intro q
    refine Int.not_lt.mp fun z => ?_
    have := a.mp (by omega)
    omega
theorem Rule.wide (h : Rule M n f) {m : Nat} (hm : 1 ≤ m) (d : n ∣ m) : Rule M m f := ⟨hm, h.mono, h.per.dvd (Int.natCast_dvd_natCast.mpr d), h.lead⟩
theorem Rule.comp (h : Rule M n f) (h' : Rule M' n g) : Rule (M + M') n (fun x => f (g x)) where
  n1 := h.n1
  mono := fun x y q => h.mono _ _ (h'.mono _ _ q)
  per := fun x => by
    show f (g (x + n)) = f (g x) + n
    rw [h'.per, h.per]
  lead := fun x => by
    have a := h'.lead x
    have b := h.lead (g x)
    show x - (M + M') ≤ f (g x) ∧ f (g x) ≤ x + (M + M')
    omega
theorem max_def' (a b : Int) : max a b = if b > a then b else a := by
  split <;> omega
theorem Rule.max (h : Rule M n f) (h' : Rule M n g) : Rule M n (fun x => max (f x) (g x)) where
  n1 := h.n1
  mono := fun x y q => by
    have a := h.mono _ _ q
    have b := h'.mono _ _ q
    show Max.max (f x) (g x) ≤ Max.max (f y) (g y)
    omega
  per := fun x => by
    show Max.max (f (x + n)) (g (x + n)) = Max.max (f x) (g x) + n
    rw [h'.per, h.per]
    omega
  lead := fun x => by
    have a := h.lead x
    have b := h'.lead x
    show x - M ≤ Max.max (f x) (g x) ∧ Max.max (f x) (g x) ≤ x + M
    omega
theorem Rule.min (h : Rule M n f) (h' : Rule M n g) : Rule M n (fun x => min (f x) (g x)) where
  n1 := h.n1
  mono := fun x y q => by
    have a := h.mono _ _ q
    have b := h'.mono _ _ q
    show Min.min (f x) (g x) ≤ Min.min (f y) (g y)
    omega
  per := fun x => by
    show Min.min (f (x + n)) (g (x + n)) = Min.min (f x) (g x) + n
    rw [h'.per, h.per]
    omega
  lead := fun x => by
    have a := h.lead x
    have b := h'.lead x
    show x - M ≤ Min.min (f x) (g x) ∧ Min.min (f x) (g x) ≤ x + M
    omega
/-! asked back, the later rule first -/
theorem by_comp {N : Nat} (h : Rule M n f) (h' : Rule M' k g) (hc : Rule (M + M') N (fun x => f (g x))) (y : Int) : By (fun x => f (g x)) y = By g (By f y) := by
  refine hc.by_eq fun x => ?_
  constructor
  · intro q
    exact (h.by_is y (g x)).mp ((h'.by_is (By f y) x).mp q)
  · intro q
    exact (h'.by_is (By f y) x).mpr ((h.by_is y (g x)).mpr q)
theorem til_comp {N : Nat} (h : Rule M n f) (h' : Rule M' k g) (hc : Rule (M + M') N (fun x => f (g x))) (y : Int) : Til (fun x => f (g x)) y = Til g (Til f y) := by
  have a := (hc.til_le (Til (fun x => f (g x)) y) y).mp (Int.le_refl _)
  have b := (h'.til_le _ _).mpr ((h.til_le _ _).mpr a)
  have c := (h'.til_le (Til g (Til f y)) (Til f y)).mp (Int.le_refl _)
  have d := (h.til_le _ _).mp c
  have e := (hc.til_le (Til g (Til f y)) y).mpr d
  omega
theorem til_max {N : Nat} (h : Rule M n f) (h' : Rule M k g) (hc : Rule M N (fun x => Max.max (f x) (g x))) (y : Int) : Til (fun x => Max.max (f x) (g x)) y = Min.min (Til f y) (Til g y) := by
  have a := (hc.til_le (Til (fun x => Max.max (f x) (g x)) y) y).mp (Int.le_refl _)
  have a : Max.max (f (Til (fun x => Max.max (f x) (g x)) y)) (g (Til (fun x => Max.max (f x) (g x)) y)) ≤ y := a
  have b := (h.til_le (Til (fun x => Max.max (f x) (g x)) y) y).mpr (by omega)
  have c := (h'.til_le (Til (fun x => Max.max (f x) (g x)) y) y).mpr (by omega)
  have d := (h.til_le (Min.min (Til f y) (Til g y)) y).mp (by omega)
  have e := (h'.til_le (Min.min (Til f y) (Til g y)) y).mp (by omega)
  have q := (hc.til_le (Min.min (Til f y) (Til g y)) y).mpr (by show Max.max (f _) (g _) ≤ y; omega)
  omega
theorem by_min {N : Nat} (h : Rule M n f) (h' : Rule M k g) (hc : Rule M N (fun x => Min.min (f x) (g x))) (y : Int) : By (fun x => Min.min (f x) (g x)) y = Max.max (By f y) (By g y) := by
  refine hc.by_eq fun x => ?_
  have a := h.by_is y x
  have b := h'.by_is y x
  show Max.max (By f y) (By g y) ≤ x ↔ y ≤ Min.min (f x) (g x)
  omega
end

/-! ### shortest lists -/
/-- the first m days, m the least divisor of the length after which the rule repeats itself -/
def Short (ds ds' : List Int) : Prop := ∃ m : Nat, 1 ≤ m ∧ m ∣ ds.length ∧ ds' = ds.take m ∧ Per (On ds) (m : Int) ∧ ∀ l : Nat, 1 ≤ l → l < m → l ∣ ds.length → ¬ Per (On ds) (l : Int)
theorem take_tab {ds : List Int} {m : Nat} (h : m ≤ ds.length) : ds.take m = tabF (On ds) m := by
  refine List.ext_getElem? fun i => ?_
  by_cases hi : i < m
  · rw [tabF_at hi, on_nat (by omega), List.getElem?_take_of_lt hi, List.getD_eq_getElem?_getD, List.getElem?_eq_getElem (by omega)]
    rfl
  · rw [List.getElem?_eq_none (by rw [List.length_take]; omega), List.getElem?_eq_none (by rw [tabF_len]; omega)]
theorem Short.on {ds ds' : List Int} (h : 1 ≤ ds.length) (s : Short ds ds') (x : Int) : On ds' x = On ds x := by
  obtain ⟨m, h1, h2, rfl, h4, _⟩ := s
  rw [take_tab (Nat.le_of_dvd h h2)]
  exact on_tab h1 h4 x
theorem short_same {a a' b b' : List Int} (ha : 1 ≤ a.length) (hb : 1 ≤ b.length) (sa : Short a a') (sb : Short b b') : a' = b' ↔ ∀ x, On a x = On b x := by
  constructor
  · intro e x
    rw [← sa.on ha, ← sb.on hb, e]
  · intro e
    have ef : On a = On b := funext e
    obtain ⟨m, m1, m2, rfl, m4, m5⟩ := sa
    obtain ⟨k, k1, k2, rfl, k4, k5⟩ := sb
    have hg : Per (On a) ((Nat.gcd m k : Nat) : Int) := Per.gcd m k m4 (by rw [ef]; exact k4)
    have g1 : 1 ≤ Nat.gcd m k := Nat.gcd_pos_of_pos_left _ (by omega)
    have gm : Nat.gcd m k ∣ m := Nat.gcd_dvd_left m k
    have gk : Nat.gcd m k ∣ k := Nat.gcd_dvd_right m k
    have em : Nat.gcd m k = m := by
      refine Nat.le_antisymm (Nat.le_of_dvd (by omega) gm) (Nat.not_lt.mp fun q => ?_)
      exact m5 _ g1 q (Nat.dvd_trans gm m2) hg
    have ek : Nat.gcd m k = k := by
      refine Nat.le_antisymm (Nat.le_of_dvd (by omega) gk) (Nat.not_lt.mp fun q => ?_)
      exact k5 _ g1 q (Nat.dvd_trans gk k2) (by rw [← ef]; exact hg)
    have e3 : m = k := by omega
    subst e3
    rw [take_tab (Nat.le_of_dvd ha m2), take_tab (Nat.le_of_dvd hb k2), ef]
/-- a rule repeats itself behind l, asked on its list alone -/
theorem per_of_list {ds : List Int} (h : 1 ≤ ds.length) {l : Int} (hq : ∀ i : Nat, i < ds.length → On ds ((i : Int) + l) = ds.getD i 0 + l) : Per (On ds) l := by
  intro x
  obtain ⟨h1, h2, h3⟩ := split_of (x := x) (L := (ds.length : Int)) (by omega)
  have a := hq (x % (ds.length : Int)).toNat (by omega)
  rw [show (((x % (ds.length : Int)).toNat : Nat) : Int) = x % (ds.length : Int) by omega] at a
  have b := ((on_per h).mul (x / (ds.length : Int))) (x % (ds.length : Int) + l)
  have e : x + l = x % (ds.length : Int) + l + x / (ds.length : Int) * (ds.length : Int) := by omega
  rw [e, b, a]
  show _ = ds.getD (x % (ds.length : Int)).toNat 0 + x / (ds.length : Int) * (ds.length : Int) + l
  omega

/-! ### common lengths -/
theorem lcm_search {a b k : Nat} (ha : 1 ≤ a) (hb : 1 ≤ b) (hk : 1 ≤ k) (hd : b ∣ a * k) (hn : ∀ j, 1 ≤ j → j < k → ¬ b ∣ a * j) : a * k = Nat.lcm a b := by
  have h1 : Nat.lcm a b ∣ a * k := Nat.lcm_dvd (Nat.dvd_mul_right a k) hd
  have h2 : 0 < Nat.lcm a b := Nat.lcm_pos (by omega) (by omega)
  obtain ⟨j, hj⟩ := Nat.dvd_lcm_left a b
  have hj1 : 1 ≤ j := by
    cases j with
    | zero => rw [Nat.mul_zero] at hj; omega
    | succ j => omega
  have h3 : b ∣ a * j := by rw [← hj]; exact Nat.dvd_lcm_right a b
  have h4 : k ≤ j := Nat.not_lt.mp fun q => hn j hj1 q h3
  have h5 : a * k ≤ a * j := Nat.mul_le_mul_left a h4
  have h6 : Nat.lcm a b ≤ a * k := Nat.le_of_dvd (Nat.mul_pos (by omega) (by omega)) h1
  omega
theorem lcm_comm1 (a b : Nat) : Nat.lcm a b = Nat.lcm b a := Nat.lcm_comm a b
theorem lcm_pos1 {a b : Nat} (ha : 1 ≤ a) (hb : 1 ≤ b) : 1 ≤ Nat.lcm a b := Nat.lcm_pos (by omega) (by omega)

/-! ### two rules held against one another -/
theorem same_on {f g : Int → Int} {n : Nat} (hn : 1 ≤ n) (hf : Per f (n : Int)) (hg : Per g (n : Int)) (h : ∀ i : Nat, i < n → f (i : Int) = g (i : Int)) (x : Int) : f x = g x := by
  rw [← on_tab hn hf x, ← on_tab hn hg x, tabF_congr h]
/-- the first place at which p holds, counted on from k -/
def firstAt (p : Int → Bool) : Nat → List Int → Option Nat
  | _, [] => none
  | k, x :: xs => if p x then some k else firstAt p (k + 1) xs
/-- all the places -/
def placesAt (p : Int → Bool) : Nat → List Int → List Nat
  | _, [] => []
  | k, x :: xs => if p x then k :: placesAt p (k + 1) xs else placesAt p (k + 1) xs
theorem placesAt_head (p : Int → Bool) : ∀ (xs : List Int) (k : Nat), (placesAt p k xs).head? = firstAt p k xs
  | [], _ => rfl
  | x :: xs, k => by
    unfold placesAt firstAt
    split
    · rfl
    · exact placesAt_head p xs (k + 1)
theorem placesAt_append (p : Int → Bool) (y : Int) : ∀ (xs : List Int) (k : Nat), placesAt p k (xs ++ [y]) = if p y then placesAt p k xs ++ [k + xs.length] else placesAt p k xs
  | [], k => by
    show (if p y then k :: placesAt p (k + 1) [] else placesAt p (k + 1) []) = _
    simp [placesAt]
  | x :: xs, k => by
    have ih := placesAt_append p y xs (k + 1)
    show (if p x then k :: placesAt p (k + 1) (xs ++ [y]) else placesAt p (k + 1) (xs ++ [y])) = _
    rw [ih]
    have e : k + 1 + xs.length = k + (x :: xs).length := by rw [List.length_cons]; omega
    rw [e]
    by_cases hx : p x = true <;> by_cases hy : p y = true <;> simp [placesAt, hx, hy]
theorem firstAt_none {p : Int → Bool} : ∀ {xs : List Int} {k : Nat}, firstAt p k xs = none ↔ ∀ x ∈ xs, p x = false
  | [], _ => by simp [firstAt]
  | x :: xs, k => by
    unfold firstAt
    by_cases h : p x = true
    · simp [h]
    · have h' : p x = false := by simpa using h
      rw [if_neg h, firstAt_none (xs := xs) (k := k + 1)]
      simp [h']
theorem firstAt_skip {p : Int → Bool} : ∀ {xs : List Int} {k i : Nat}, (∀ j < i, ∀ y, xs[j]? = some y → p y = false) → ∀ {y : Int}, xs[i]? = some y → p y = true → firstAt p k xs = some (k + i)
  | [], _, _, _, _, h, _ => by simp at h
  | x :: xs, k, 0, _, y, h, hy => by
    have e : x = y := by simpa using h
    subst e
    unfold firstAt
    rw [if_pos hy, Nat.add_zero]
  | x :: xs, k, i + 1, hn, y, h, hy => by
    have hx : p x = false := hn 0 (by omega) x rfl
    unfold firstAt
    rw [if_neg (by rw [hx]; decide), firstAt_skip (xs := xs) (k := k + 1) (i := i) (fun j hj y e => hn (j + 1) (by omega) y (by simpa using e)) (y := y) (by simpa using h) hy]
    congr 1
    omega
theorem firstAt_end {p : Int → Bool} {xs : List Int} {k : Nat} (hn : ∀ (j : Nat) y, xs[j]? = some y → p y = false) : firstAt p k xs = none :=
  firstAt_none.mpr fun x hx => by
    obtain ⟨j, hj⟩ := List.getElem?_of_mem hx
    exact hn j x hj
theorem max_one {ns : List Int} {m m' : Int} (h1 : m ∈ ns) (h2 : ∀ y, y ∈ ns → y ≤ m) (h3 : m' ∈ ns) (h4 : ∀ y, y ∈ ns → y ≤ m') : m = m' := Int.le_antisymm (h4 _ h1) (h2 _ h3)
end K13
set_option Elab.async false
set_option linter.all false
set_option maxRecDepth 100000
set_option maxHeartbeats 4000000
/-! Further rules over the hand layer: math.lcm; repr of data (where no repr is under way); defs whose promise leans on that. -/
namespace L2
open PySem PySem.Spec PyProof.Rows
section
variable {X : Cx}
/-! ### math.lcm of two lengths -/
def rLcm : List V → Hp → VK → Prop := fun vs H Q => ∃ a b : Nat, vs = [.int (a : Int), .int (b : Int)] ∧ 1 ≤ a ∧ 1 ≤ b ∧ a ≤ 1000 ∧ b ≤ 1000 ∧ Q (.int ((Nat.lcm a b : Nat) : Int)) H
theorem lcm_small {a b : Nat} (h1 : 1 ≤ a) (h2 : 1 ≤ b) (ha : a ≤ 1000) (hb : b ≤ 1000) : Nat.lcm a b ≤ 1000000 :=
  Nat.le_trans (Nat.le_of_dvd (Nat.mul_pos h1 h2) (Nat.lcm_dvd (Nat.dvd_mul_right a b) (Nat.dvd_mul_left b a))) (Nat.mul_le_mul ha hb)
theorem log_small {n : Nat} (h : n < 2 ^ 64) : n.log2 < bitsLine := by
  have h1 : n.log2 ≤ 63 := PySem.W.mg_log (k := 63) h
  exact Nat.lt_of_le_of_lt h1 (by decide)
theorem cr_lcm : CallR X (.builtin "math.lcm") rLcm := by
  intro pins s σ H vs us Q I r h
  obtain ⟨a, b, rfl, h1, h2, ha, hb, q⟩ := h
  obtain ⟨t, u, rfl⟩ := Vals.int2 r
  have hl := lcm_small h1 h2 ha hb
  refine PySem.W.mg_lcm_v (c := ((Nat.lcm a b : Nat) : Int)) ?_ ?_ ?_ ?_ ⟨.int _, H, I.tok _, ⟨_, rfl⟩, q⟩
  · show a < 2 ^ 64
    omega
  · show b < 2 ^ 64
    omega
  · show ((((Nat.lcm 1 a).lcm b : Nat)) : Int) = _
    rw [Nat.lcm_one_left]
  · exact log_small (show Nat.lcm a b < 2 ^ 64 by omega)

/-! ### repr of data, where no repr is under way -/
def rRepr (K : PySem.W.Frag) : List V → Hp → VK → Prop := fun vs H Q => ∃ (a : Addr) (d : PyData), vs = [.ref a] ∧ Dp K H (.ref a) d ∧ d.showable = true ∧ d.hasDict = false ∧ d.depth ≤ 40 ∧ d.shown.length ≤ sizeLine ∧ Q (.str d.shown) H
theorem cr_repr (hg : X.A.guards = some []) (hu : X.A.units + 64 < cLine) : CallR X (.builtin "repr") (rRepr X.K) := by
  intro pins s σ H vs us Q I r h
  obtain ⟨a, d, rfl, hd, h1, h2, h3, h4, q⟩ := h
  obtain ⟨u, rfl, hr⟩ := vals1 r
  obtain rfl : u = Value.ref a := hr
  obtain ⟨as, rd⟩ := Dp.reads I d _ _ hd rfl
  exact repr_of_reads' rd h1 (fun e => by rw [h2] at e; cases e) hg (by omega) (fun _ _ e => e) (fun h' u tk k => ⟨.str d.shown, H, I.kept (t' := tk) k, ⟨u, rfl⟩, q⟩) h4
end

/-! ### a def's promise where nothing guards (no repr is under way) -/
structure FnG (P : Program) (w : World) (K : PySem.W.Frag) (mg : Str → Option Value) (base : Heap) (CX : CXT) (k : Nat) (f : Addr) (fd : FuncData) (ps : List Str) (sp : Sp) : Prop where
  len : ∀ vs H Q E, sp vs H Q E → vs.length = ps.length
  run : ∀ (A : Around) (outer : List Env) (s : Shared) (H : Hp) (args : Args) (us : List Value) (vs : List V) (Q : VK) (E : XK), A.guards = some [] → Room k A → Env0 P w K mg base A outer s H → BindsTo s fd args (ps.zip us) → Vals vs us → sp vs H Q E →
    codeAny (model P w) A (.call (.ref f) args) (CR CX outer P w H s Q E) s
theorem FnOk.g {P : Program} {w : World} {K : PySem.W.Frag} {mg : Str → Option Value} {base : Heap} {CX : CXT} {k : Nat} {f : Addr} {fd : FuncData} {ps : List Str} {sp : Sp} (F : FnOk P w K mg base CX k f fd ps sp) : FnG P w K mg base CX k f fd ps sp :=
  ⟨F.len, fun A outer s H args us vs Q E _ => F.run A outer s H args us vs Q E⟩
theorem FnG.mono {P : Program} {w : World} {K : PySem.W.Frag} {mg : Str → Option Value} {base : Heap} {CX : CXT} {j k : Nat} {f : Addr} {fd : FuncData} {ps : List Str} {sp : Sp} (F : FnG P w K mg base CX j f fd ps sp) (h : j ≤ k) : FnG P w K mg base CX k f fd ps sp :=
  ⟨F.len, fun A outer s H args us vs Q E g hr => F.run A outer s H args us vs Q E g (hr.mono h)⟩
section
variable {P : Program} {w : World} {K : PySem.W.Frag} {mg : Str → Option Value} {base : Heap}
/-- a def by its body, where nothing guards -/
theorem Fun.okG {x qual : Str} {st : Stmt} {f : Addr} {fd : FuncData} {N ps : List Str} {k : Nat} {sp : Sp} (F : Fun K x qual st f fd) (S : FnScope N ps (defScope st)) (len : ∀ vs H Q E, sp vs H Q E → vs.length = ps.length)
    (hbody : ∀ (cdv : Value) (A : Around) (outer : List Env) (s : Shared) (H : Hp) (vs : List V) (Q : VK) (E : XK), A.guards = some [] → Room k (A.deeper (envOfC qual (defScope st) s.heap.objs.size f cdv)) → sp vs H Q E →
      ∃ t, PSs (cxOf CX0 P w K mg base N qual (defScope st) f cdv A outer s H E).nox (defBody st) t ∧ t { nx := fun _ H' => Q .non H', rt := Q } (start N vs) H) : FnG P w K mg base CX0 (k + 1) f fd ps sp := by
  obtain ⟨oc, od, kV, doc, pm, an, cdv, ct, osl, rfl, lk, hcd⟩ := F.ex
  refine ⟨len, fun A outer s H args us vs Q E hg hr e0 hb r hsp => ?_⟩
  have hl := len _ _ _ _ hsp
  have KX : K.In s.heap := e0.mod.kin.keeps fun b o q => (e0.bs b o q).1
  have lim : s.heap.NoLimit := e0.mod.nolimit.keeps fun b o q => (e0.bs b o q).1
  refine codeAny_call_function hr.depth (KX _ _ lk) rfl S.co S.gen rfl (PySem.W.codeRec_of KX hcd) (hb _ _ _ _ ?_)
  refine wpAny_newFunctionEnv_cells S.kind ?_ fun env he s1 x => ?_
  · rintro ⟨n, v⟩ hy
    rcases S.par n (List.of_mem_zip hy).1 with q | q
    · exact .inl q
    · exact .inr ⟨q, PySem.W.cellsFrom_some _ _ _ (.inl q)⟩
  · subst he
    refine ⟨lim.keeps x.toInCall.keep, codeAny_func ?_⟩
    obtain ⟨t, ht, hq⟩ := hbody cdv A outer s H vs Q E hg (hr.deeper _) hsp
    refine wpAny_mono (ht.nox.run [] s1 (start N vs) H _ (inv_start S hr.hd e0 hl r x) hq) (fun fl s' hs => ?_) fun e s' hs => hs
    cases fl with
    | ret u =>
      obtain ⟨v, σ', H', J, rv, q⟩ := hs
      exact ⟨v, H', J.os, J.bare, J.base, J.hok, rv, q⟩
    | next =>
      obtain ⟨σ', H', J, q⟩ := hs
      exact ⟨.non, H', J.os, J.bare, J.base, J.hok, rfl, q⟩
    | brk =>
      obtain ⟨_, _, _, q⟩ := hs
      exact False.elim q
    | cont =>
      obtain ⟨_, _, _, q⟩ := hs
      exact False.elim q
end
section
variable {X : Cx} {k : Nat} {f : Addr} {fd : FuncData} {ps : List Str} {sp : Sp} {x : Str} {p pos : Pos} {e : Expr} {es : List Expr} {t : TA}
/-- f(e, ..) of such a def that lets nothing out -/
theorem pe_callG (hgd : X.A.guards = some []) (F : FnG X.prog X.w X.K X.mg X.base CX0 k f fd ps sp) (hr : Room k X.A) (hg : Gl X x) (hm : X.mg x = some (.ref f)) (hk : PySem.W.keepIn X.K (.ref f) = true) (hb : Binds X.K fd ps []) (ha : PA X (e :: es) t)
    (hdb : (x == ("__debug__" : Str)) = false := by decide) (he : starEach (e :: es) X.env = (false, eval e X.env) :: starEach es X.env := by rfl) (hpl : (backTo pos (starEach es X.env)).any (·.1) = false := by rfl) :
    PE X (.Call (.Name x p) (e :: es) [] pos) (tCall sp [] E0 t) := by
  refine ⟨fun pins s σ H Q I h => ?_⟩
  refine wpAny_Call_Name_kw (ld_glob I hg hm ?_ hdb)
  refine PySem.W.callWith_K (h₀ := X.base) I.ok.mod.kin hk (thn (ha.run pos pins s σ H _ I h) fun us s1 ⟨vs, H1, I1, r1, q1⟩ => ⟨I1.kIn, ?_⟩) he hpl
  have q1 : sp (vs ++ []) H1 Q E0 := q1
  rw [List.append_nil] at q1
  have hl : (us ++ []).length = ps.length := by rw [List.append_nil, ← r1.length, F.len _ _ _ _ q1]
  have hb1 := hb s1 us I1.kIn hl
  rw [List.append_nil] at hb1
  refine wpAny_call (codeAny_mono (F.run X.A X.stack s1 H1 ⟨us, []⟩ us vs Q E0 hgd hr I1.env0 hb1 r1 q1) fun r s' hq => ?_)
  cases r with
  | error e => exact False.elim hq
  | ok fl =>
    cases fl with
    | ret u => exact I1.after hq
    | next => exact False.elim hq
    | brk => exact False.elim hq
    | cont => exact False.elim hq
end
end L2
set_option Elab.async false
set_option linter.all false
set_option maxRecDepth 100000
set_option maxHeartbeats 4000000
/-! TooMany: an own class over an own class over ArithmeticError; its __init__ stores two fields. Made, raised, read. (The plan is that of skel/42.) -/
namespace K13
open PySem L2
/-- the text by places -/
def topS (i : Nat) : Stmt := PySem.Challenge.pw_leadrules_k13_whole_tables_made_of_two.main.body.getD i (.Pass ⟨0, 0, 0, 0⟩)
abbrev sTooI : Stmt := inClass (topS 7) 0
end K13
namespace PySem
namespace TooX
open PySem.W PySem.Calls PyProof.Rows PySem.HandSPX K13 L2
abbrev aeTail : List Value := [.type "ArithmeticError", .type "Exception", .type "BaseException", .type "object"]
theorem ae_pass (self : Value) (C L : Addr) : refuseLoop self "__setattr__" (.ref C :: .ref L :: aeTail) = pure () := by
  rw [refuseLoop_ref, refuseLoop_ref]
  exact F.store_ArithmeticError.passes self
theorem ae_has (L : Addr) (T : String) : (Value.ref L :: aeTail).contains (.type T) = aeTail.contains (.type T) := by
  rw [List.contains_cons]
  rfl
/-- what the written part says of TooMany, at C, of the class under it, at L, and of its __init__, at fI -/
structure TooTxt (K : Frag) (mg : Str → Option Value) (C L fI : Addr) : Prop where
  gC : mg "TooMany" = some (.ref C)
  cls : ∃ nm q N bs sn sub ab col dd k0 k1 k2 k3 k5, K.lookup C = some (excClassObj nm q C N bs (.ref L :: aeTail) true sn sub ab col dd k0 k1 k2 k3 k5 "ArithmeticError.__new__")
  sa : findIn K (.ref C) "__setattr__" = some (some (.builtin "object.__setattr__"))
  ga : findIn K (.ref C) "__getattribute__" = some (some (.builtin "BaseException.__getattribute__"))
  gg : findIn K (.ref C) "__getattr__" = some none
  nW : findIn K (.ref C) "what" = some none
  nL : findIn K (.ref C) "limit" = some none
  iC : findIn K (.ref C) "__init__" = some (some (.ref fI))
  tC : typeIn K (.ref fI) = some (.type "function")
  kC : keepIn K (.ref C) = true
  exC : subIn K (.ref C) (.type "BaseException") = some true
  tyC : typeIn K (.ref C) = some (.type "type")
  hdC : hasDictIn K C = true
  te : exmOne K (.ref C) (.ref C) = some true
  fn : ∃ (oc : Value) (od : Option Addr) (kV doc pm : Value) (an : Option Addr) (cdv ct : Value) (osl : Array (Option Value)),
    K.lookup fI = some ⟨oc, od, .func (fnOf "__init__" "TooMany.__init__" (defArgs sTooI) (defBody sTooI) (defScope sTooI) .none kV doc pm an cdv ct), osl⟩ ∧ codeIn K cdv "TooMany.__init__" = true
theorem two_size (v u : Value) : [v, u].length ≤ sizeLine := by
  rw [sizeLine_eq]
  exact (by decide : 2 ≤ 16777216)
theorem ldF {M : Model} {s : Shared} {name : Str} {scope : Scope} {L a : Addr} {cd : Value} {m : Str → Option Value} {x : Str} {pos : Pos} {v : Value} {Q : Value → Shared → Prop} {A : Around} {E : Value → Shared → Prop} (hn : s.heap.Ns L m) (hv : m x = some v) (h : Q v s)
    (hk : scope.kind = .function := by rfl) (hl : (envOfC name scope L a cd).kindOf x = some .local := by rfl) (hd : (x == ("__debug__" : Str)) = false := by decide) :
    wpAny M A (eval (.Name x pos) (envOfC name scope L a cd)) Q E s := wpAny_Name (wpAny_loadName_local hk hl hn hv h) hd
section
open Builtin Builtin.ObjectAttr
variable {prog : Program} {w : World} {A : Around} {E : Value → Shared → Prop} {R : Result → Shared → Prop} {hp : Heap} {g : Array GenState} {d : Drawn} {t : Nat} {os : OsState} {K : Frag} {name : Str} {tk : Tok} {v : Value} {x C L : Addr} {fv : Array Value} {cd : ClassData}
/-- the first store into such an exception: its dict is laid -/
theorem first_store (X : K.In hp) (hx : hp.get? x = some { cls := .ref C, data := .fields fv }) (hcd : clsIn K C = some cd) (hm : cd.mro = .ref C :: .ref L :: aeTail) (hh : cd.hasDict = true) (ha : findIn K (.ref C) name = some none)
    (hq : ∀ h' tk' dx, (∀ b o, b ≠ x → hp.get? b = some o → h'.get? b = some o) → hp.objs.size ≤ dx → dx ≠ x → h'.get? x = some { cls := .ref C, dict := some dx, data := .fields fv } → h'.Ns1 dx (fun y => if y = name then some v else none) → R (.ok (.ret .none)) ⟨h', g, d, tk', os⟩) :
    codeAny (model prog w) A (.call (.builtin "object.__setattr__") ⟨[.ref x, .str name tk, v], []⟩) R ⟨hp, g, d, t, os⟩ := by
  have IA : InstAt hp x { cls := .ref C, data := .fields fv } C none := ⟨hx, rfl, rfl, trivial⟩
  have hob : cd.mro.contains (.type "object") = true := by rw [hm, List.contains_cons, ae_has]; rfl
  have hxs : x ≠ hp.objs.size := Nat.ne_of_lt (Heap.lt_size hx)
  have sub : Looks (model prog w) hp (isInstance (.ref x) (.type "object")) true := IA.type.andThen (looks_mroIn X (by unfold mroIn; rw [hcd, Option.bind_some, if_neg (by rw [hm]; exact Bool.false_ne_true), hob]))
  refine codeAny_call_builtin F.store_object.slot.plain F.store_object.entry (@check_slot (model prog w) _ _ ⟨hp, g, d, t, os⟩ "object.__setattr__" "object" "__setattr__" (.ref x) [.str name tk, v] [] _ F.store_object.kind F.store_object.split sub (F.store_object.args (.ref x) (.str name tk) v) ?_)
  have hmr : Looks (model prog w) hp (mroOf (.ref C)) cd.mro := (looks_clsIn X hcd).andThen .now
  have hst : Looks (model prog w) hp (storeTaker? none) none := .now
  have hcl : Looks (model prog w) hp (classData C) cd := looks_clsIn X hcd
  rw [osa_eq, refuse_eq]
  refine wpAny_bind (wpAny_bind (IA.type.at (wpAny_bind (hmr.at ?_))))
  rw [hm, ae_pass]
  refine wpAny_pure (wpAny_bind (IA.type.at (wpAny_bind ((looks_findIn X ha).at (wpAny_bind (hst.at ?_))))))
  show wpAny _ _ (storeInOwnDict (.ref x) (.ref C) (.str name tk) name v false) _ _ _
  obtain ⟨c1, c2, c3, c4, c5, c6, c7, c8, c9, c10, c11⟩ := cd
  dsimp only at hh
  subst hh
  unfold storeInOwnDict ownDictForStores
  repeat (first | with_reducible refine store_in_new ?_ ?_ | with_reducible refine wpAny_loadPart_at hx ?_ | with_reducible refine hcl.at ?_ | wp_step)
  · exact ⟨_, #[], _, (Heap.get?_update_ne _ _ _ _ hxs.symm).trans (Heap.get?_push_at rfl rfl), rfl, fun e he => absurd he (by simp), fun _ => rfl⟩
  · intro h' tk' hn' hs
    have hx1 : (hp.push { cls := .type "dict", data := .dict #[] }).get? x = some { cls := .ref C, data := .fields fv } := Heap.get?_push_of_some _ hx
    refine hq h' tk' hp.objs.size (fun b o hb ho => ?_) (Nat.le_refl _) hxs.symm ?_ hn'
    · exact (hs.2 b (Nat.ne_of_lt (Heap.lt_size ho))).trans ((Heap.get?_update_ne _ _ _ _ hb).trans (Heap.get?_push_of_some _ ho))
    · exact (hs.2 x hxs).trans (Heap.get?_update_self _ hx1 rfl)
/-- a further one -/
theorem next_store {dx : Addr} {m0 : Str → Option Value} {nl : List Str} (X : K.In hp) (hx : hp.get? x = some { cls := .ref C, dict := some dx, data := .fields fv }) (hns : hp.Ns1 dx m0) (hw : Within m0 nl) (hz : nl.length ≤ 1000)
    (hcd : clsIn K C = some cd) (hm : cd.mro = .ref C :: .ref L :: aeTail) (hh : cd.hasDict = true) (ha : findIn K (.ref C) name = some none)
    (hq : ∀ h' tk', (∀ b o, b ≠ dx → hp.get? b = some o → h'.get? b = some o) → h'.Ns1 dx (fun y => if y = name then some v else m0 y) → R (.ok (.ret .none)) ⟨h', g, d, tk', os⟩) :
    codeAny (model prog w) A (.call (.builtin "object.__setattr__") ⟨[.ref x, .str name tk, v], []⟩) R ⟨hp, g, d, t, os⟩ := by
  obtain ⟨oD, e1, e2, hoD, hdD, _⟩ := hns.count hw
  have IA : InstAt hp x { cls := .ref C, dict := some dx, data := .fields fv } C (some oD) := ⟨hx, rfl, rfl, hoD⟩
  have hob : cd.mro.contains (.type "object") = true := by rw [hm, List.contains_cons, ae_has]; rfl
  have sub : Looks (model prog w) hp (isInstance (.ref x) (.type "object")) true := IA.type.andThen (looks_mroIn X (by unfold mroIn; rw [hcd, Option.bind_some, if_neg (by rw [hm]; exact Bool.false_ne_true), hob]))
  refine codeAny_call_builtin F.store_object.slot.plain F.store_object.entry (@check_slot (model prog w) _ _ ⟨hp, g, d, t, os⟩ "object.__setattr__" "object" "__setattr__" (.ref x) [.str name tk, v] [] _ F.store_object.kind F.store_object.split sub (F.store_object.args (.ref x) (.str name tk) v) ?_)
  have hmr : Looks (model prog w) hp (mroOf (.ref C)) cd.mro := (looks_clsIn X hcd).andThen .now
  have hst : Looks (model prog w) hp (storeTaker? none) none := .now
  have hcl : Looks (model prog w) hp (classData C) cd := looks_clsIn X hcd
  rw [osa_eq, refuse_eq]
  refine wpAny_bind (wpAny_bind (IA.type.at (wpAny_bind (hmr.at ?_))))
  rw [hm, ae_pass]
  refine wpAny_pure (wpAny_bind (IA.type.at (wpAny_bind ((looks_findIn X ha).at (wpAny_bind (hst.at ?_))))))
  show wpAny _ _ (storeInOwnDict (.ref x) (.ref C) (.str name tk) name v false) _ _ _
  obtain ⟨c1, c2, c3, c4, c5, c6, c7, c8, c9, c10, c11⟩ := cd
  dsimp only at hh
  subst hh
  unfold storeInOwnDict ownDictForStores
  repeat (first | with_reducible refine OEX.store_in_old hns hw hz ?_ | with_reducible refine wpAny_loadPart_at hx ?_ | with_reducible refine hcl.at ?_ | wp_step)
  intro h' tk' hn' hs
  exact hq h' tk' (fun b o hb ho => (hs.2 b hb).trans ho) hn'
end
/-- what __init__ leaves of a fresh exception at x -/
structure InitEnd (h h' : Heap) (x C dx t1 : Addr) (v u : Value) : Prop where
  keep : ∀ b o, b ≠ x → h.get? b = some o → h'.get? b = some o
  obj : h'.get? x = some { cls := .ref C, dict := some dx, data := .fields #[.ref t1, .none, .none, .none, .bool false, .none] }
  dbig : h.objs.size ≤ dx
  dne : dx ≠ x
  ns : h'.Ns1 dx (fun y => if y = "limit" then some u else if y = "what" then some v else none)
/-- a made TooMany -/
structure OwnMade (h h' : Heap) (e C d : Addr) (v u : Value) : Prop where
  keep : ∀ b o, h.get? b = some o → h'.get? b = some o
  new : h.objs.size ≤ e
  obj : ∃ oe vs, h'.get? e = some oe ∧ oe.cls = .ref C ∧ oe.dict = some d ∧ oe.data = .fields vs ∧ vs[1]? = some .none
  dbig : h.objs.size ≤ d
  dne : d ≠ e
  ns : h'.Ns1 d (fun y => if y = "limit" then some u else if y = "what" then some v else none)
theorem within_what {v : Value} : Within (fun y : Str => if y = "what" then some v else none) ["what"] := fun y hy => by
  by_cases e : y = "what"
  · rw [e]
    exact List.mem_cons_self
  · exact absurd (if_neg e) hy
section
variable {prog : Program} {w : World} {A : Around} {E : Value → Shared → Prop} {R : Result → Shared → Prop} {s : Shared} {K : Frag} {mg : Str → Option Value} {C L fI : Addr}
theorem too_init (T : TooTxt K mg C L fI) {x t0 : Addr} {v u : Value} (X : K.In s.heap) (hlim : s.heap.NoLimit) (hx : s.heap.get? x = some (excO C t0)) (hnx : K.lookup x = none) (hroom : A.depth < recursionLimit)
    (hq : ∀ h' tk dx, InitEnd s.heap h' x C dx t0 v u → R (.ok (.ret .none)) { s with heap := h', toks := tk }) :
    codeAny (model prog w) A (.call (.ref fI) ⟨[.ref x, v, u], []⟩) R s := by
  obtain ⟨oc, od, kV, doc, pm, an, cdv, ct, osl, ho, hcd⟩ := T.fn
  obtain ⟨nm, q, N, bs, sn, sub, ab, col, dd, k0, k1, k2, k3, k5, hC⟩ := T.cls
  have hcl : clsIn K C = some { name := nm, bases := bs, mro := .ref C :: .ref L :: aeTail, ns := N, qualname := q, hasDict := true, slotNames := sn, subclasses := sub, abstract := ab, collection := col, hasDel := false } := by unfold clsIn; rw [hC] <;> rfl
  refine Att.call_fn (binds := [("self", .ref x), ("what", v), ("limit", u)]) X hlim ho hcd hroom (BindsTo.of_eq (by first | rfl | with_unfolding_all rfl)) (by first | rfl | decide | with_unfolding_all rfl) (fun s₁ IC => ?_) rfl rfl rfl
  obtain ⟨h₁, tk₁, rfl⟩ := IC.toInCall.same
  have k : ∀ b o, s.heap.get? b = some o → h₁.get? b = some o := IC.toInCall.keep
  have hn := IC.toInCall.ns
  have hxL : s.heap.objs.size ≠ x := Nat.ne_of_gt (Heap.lt_size hx)
  have X₁ : K.In h₁ := X.keeps k
  have hx₁ := k _ _ hx
  have z : s.heap.objs.size < h₁.objs.size := hn.lt
  -- self.what = what
  show wpAny _ _ (execs _ _) _ _ _
  refine wpAny_execs_cons (plainObj_wpAny_Assign_Attribute ?_)
  refine ldF (v := v) hn (by first | rfl | with_unfolding_all rfl | kernel_rfl) (ldF (v := .ref x) hn (by first | rfl | with_unfolding_all rfl | kernel_rfl) ?_)
  refine set_plain X₁ (ox := excO C t0) (od := none) ⟨hx₁, rfl, rfl, trivial⟩ T.sa ?_
  refine first_store X₁ hx₁ hcl rfl rfl T.nW (fun h₃ tk₃ dx k₃ dn dne hx₃ hn₃ => ?_)
  have hn3 : h₃.Ns s.heap.objs.size _ := hn.at fun o q => k₃ _ _ hxL q
  have X₃ : K.In h₃ := fun b o e => k₃ b o (fun z2 => by rw [z2, hnx] at e; cases e) (X₁ b o e)
  obtain ⟨oD, _, _, hoD, _, _⟩ := hn₃.count within_what
  have ebig : s.heap.objs.size ≤ dx := Nat.le_of_lt (Nat.lt_of_lt_of_le z dn)
  -- self.limit = limit
  show wpAny _ _ (execs _ _) _ _ _
  refine wpAny_execs_cons (plainObj_wpAny_Assign_Attribute ?_)
  refine ldF (v := u) hn3 (by first | rfl | with_unfolding_all rfl | kernel_rfl) (ldF (v := .ref x) hn3 (by first | rfl | with_unfolding_all rfl | kernel_rfl) ?_)
  refine set_plain X₃ (ox := { cls := .ref C, dict := some dx, data := .fields #[.ref t0, .none, .none, .none, .bool false, .none] }) (od := some oD) ⟨hx₃, rfl, rfl, hoD⟩ T.sa ?_
  refine next_store X₃ hx₃ hn₃ within_what (by decide) hcl rfl rfl T.nL (fun h₅ tk₅ k₅ hn₅ => ?_)
  show wpAny _ _ (execs _ _) _ _ _
  refine wpAny_execs_nil (hq h₅ tk₅ dx ⟨fun b o hb e => k₅ b o (fun z2 => ?_) (k₃ b o hb (k b o e)), k₅ x _ (Ne.symm dne) hx₃, ebig, dne, hn₅⟩)
  have h1 := Heap.lt_size e
  rw [z2] at h1
  exact Nat.lt_irrefl _ (Nat.lt_of_lt_of_le h1 ebig)
theorem too_made (T : TooTxt K mg C L fI) {v u : Value} (X : K.In s.heap) (hlim : s.heap.NoLimit) (hroom : A.depth + 1 < recursionLimit)
    (hq : ∀ h' tk e d, OwnMade s.heap h' e C d v u → R (.ok (.ret (.ref e))) { s with heap := h', toks := tk }) :
    codeAny (model prog w) A (.call (.ref C) ⟨[v, u], []⟩) R s := by
  obtain ⟨nm, q, N, bs, sn, sub, ab, col, dd, k0, k1, k2, k3, k5, hC⟩ := T.cls
  obtain ⟨hp, g, dr, tk, os⟩ := s
  have k : ∀ b o, hp.get? b = some o → ((hp.push (kdv_tup [v, u])).push (excO C hp.objs.size)).get? b = some o := fun b o e => Heap.get?_push_of_some _ (Heap.get?_push_of_some _ e)
  have hget : ((hp.push (kdv_tup [v, u])).push (excO C hp.objs.size)).get? (hp.objs.size + 1) = some (excO C hp.objs.size) := by heap_get
  have hnx : K.lookup (hp.objs.size + 1) = none := by
    cases e : K.lookup (hp.objs.size + 1) with
    | none => rfl
    | some o =>
      have z : hp.get? (hp.objs.size + 1) = some o := X _ _ e
      exact absurd (Nat.lt_of_succ_lt (Heap.lt_size z)) (Nat.lt_irrefl _)
  refine call_own F.excBase_ArithmeticError (fun X => ae_has L X) (X _ _ hC) (looks_findIn X T.iC) (fun self => bind_fn X self T.tC) (two_size v u) ?_
  refine too_init (s := ⟨(hp.push (kdv_tup [v, u])).push (excO C hp.objs.size), g, dr, tk, os⟩) T (X.keeps k) (hlim.keeps k) hget hnx ?_ fun h' tk' dx ⟨k', hx, dn, dne, hns⟩ => ?_
  · show A.depth + 1 < recursionLimit
    exact hroom
  · have old : ∀ b o, hp.get? b = some o → h'.get? b = some o := fun b o e => k' b o (Nat.ne_of_lt (Nat.lt_succ_of_lt (Heap.lt_size e))) (k b o e)
    have z : hp.objs.size + 1 + 1 ≤ dx := by
      first
        | (simpa only [Heap.size_push] using dn)
        | exact dn
        | (have q := dn; rw [Heap.size_push, Heap.size_push] at q; exact q)
    exact ⟨rfl, hq h' tk' (hp.objs.size + 1) dx ⟨old, Nat.le_succ _, ⟨_, _, hx, rfl, rfl, rfl, rfl⟩, Nat.le_trans (Nat.le_trans (Nat.le_succ _) (Nat.le_succ _)) z, dne, hns⟩⟩
end
end TooX
end PySem
namespace L2
open PySem PySem.Spec PyProof.Rows
/-- the fields of a TooMany -/
def tooF (v u : V) : List (Str × V) := [(("limit" : Str), u), (("what" : Str), v)]
theorem tooF_what (v u : V) : (tooF v u).lookup ("what" : Str) = some v := by
  unfold tooF
  rw [lookup_put, if_neg (by decide), lookup_put, if_pos rfl]
theorem tooF_limit (v u : V) : (tooF v u).lookup ("limit" : Str) = some u := by
  unfold tooF
  rw [lookup_put, if_pos rfl]
theorem relO_too {v u : V} {v' u' : Value} (r : RelV v v') (r2 : RelV u u') (f : Str) : RelO ((tooF v u).lookup f) (if f = "limit" then some u' else if f = "what" then some v' else none) :=
  relO_put (f := "limit") (mA := fun g => if g = "what" then some v' else none) r2 (fun g => relO_put (f := "what") (fs := []) (mA := fun _ => none) r (fun _ => True.intro) g) f
section
variable {X : Cx} {C L fI : Addr}
/-- TooMany(e1, e2) -/
def tMkToo (C : Addr) (ta : TA) : St → Hp → XK → Prop := fun σ H Q => ta σ H fun vs H1 => ∃ v u, vs = [v, u] ∧ ∀ d, H1 d = none → Q (.ref C) (some d) (upd H1 d (.xd (tooF v u)))
theorem pmk_too {a b : Expr} {ta : TA} {p pos : Pos} {k : Nat} (T : PySem.TooX.TooTxt X.K X.mg C L fI) (hr : Room k X.A) (ha : PA X [a, b] ta) (hg : Gl X "TooMany" := by rfl)
    (he : starEach (a :: [b]) X.env = (false, eval a X.env) :: starEach [b] X.env := by rfl) (hpl : (backTo pos (starEach [b] X.env)).any (·.1) = false := by rfl) :
    PMk X (.Call (.Name "TooMany" p) [a, b] [] pos) (tMkToo C ta) := by
  intro pins s σ H Q I h
  refine wpAny_Call_Name_kw (ld_glob I hg T.gC ?_)
  refine PySem.W.callWith_K (h₀ := X.base) I.ok.mod.kin T.kC (thn (ha.run pos pins s σ H _ I h) fun us s1 hh => ?_) he hpl
  obtain ⟨vs, H1, I1, r1, v, u, ev, q1⟩ := hh
  subst ev
  refine ⟨I1.kIn, ?_⟩
  obtain ⟨v', u', rfl, rv, ru⟩ := vals2 r1
  show wpAny _ _ (call (.ref C) [v', u']) _ _ _
  have hlim := I1.nolimit
  obtain ⟨hp, g, dr, tk, os⟩ := s1
  refine wpAny_call (PySem.TooX.too_made T I1.kIn hlim (by have := hr.dp; omega) fun h' tk' e d M => ?_)
  show MkP X pins σ Q (.ref e) ⟨h', g, dr, tk', os⟩
  obtain ⟨oe, fv, hoe, hc, hd, hdat, h1⟩ := M.obj
  have hns := M.ns
  obtain ⟨G', g1, g2⟩ := restrict h' fun b => decide (b ≠ e)
  have gk : ∀ b, b ≠ e → G'.get? b = h'.get? b := fun b hb => g1 b (decide_eq_true hb)
  have ge : G'.get? e = none := g2 e (by simp)
  have old : ∀ b o, hp.get? b = some o → G'.get? b = some o := fun b o q => (gk b (Nat.ne_of_lt (Nat.lt_of_lt_of_le (Heap.lt_size q) M.new))).trans (M.keep b o q)
  have ob : ObjOk X.prog X.w (upd H1 d (.xd (tooF v u))) G' d (.xd (tooF v u)) := ⟨_, hns.at (fun o q => (gk d M.dne).trans q), fun f => relO_too rv ru f⟩
  have J : Inv X pins σ (upd H1 d (.xd (tooF v u))) ⟨G', g, dr, tk', os⟩ := I1.laid (t' := tk') old M.dbig ob
  refine ⟨e, oe, fv, ⟨G', g, dr, tk', os⟩, _, .ref C, some d, rfl, J, fun b o q => ?_, ge, hoe, ⟨hc, hd⟩, hdat, h1, ?_, rfl, I1.bare, raises_own T.exC T.tyC, q1 d (I1.hok.fresh M.dbig)⟩
  · by_cases hb : b = e
    · have q' : G'.get? b = some o := q
      rw [hb, ge] at q'; cases q'
    · exact (gk b hb).symm.trans q
  · rw [upd_ne (Ne.symm M.dne)]
    exact I1.hok.fresh M.new
/-- raise TooMany(e1, e2) -/
def tRaiseToo (C : Addr) (W : WX) (ta : TA) : TS := fun _ σ H => tMkToo C ta σ H fun cls d H' => W cls d σ H'
theorem ps_raiseToo {a b : Expr} {ta : TA} {W : WX} {p pos pos2 : Pos} {k : Nat} (hc : X.calm = true) (T : PySem.TooX.TooTxt X.K X.mg C L fI) (hr : Room k X.A) (tk : Takes X W) (ha : PA X [a, b] ta) (hg : Gl X "TooMany" := by rfl)
    (he : starEach (a :: [b]) X.env = (false, eval a X.env) :: starEach [b] X.env := by rfl) (hpl : (backTo pos (starEach [b] X.env)).any (·.1) = false := by rfl) :
    PS X (.Raise (some (.Call (.Name "TooMany" p) [a, b] [] pos)) none pos2) (tRaiseToo C W ta) := ps_raise hc tk (pmk_too T hr ha hg he hpl)
/-- e.f, e the TooMany that the suite holds (at a; its class cls, its dict d) -/
def tTooF (C : Addr) (a : Addr) (cls : Value) (d : Option Addr) (f : Str) (te : TE) : TE := fun σ H Q => te σ H fun x H1 => x = .ref a ∧ cls = .ref C ∧ ∃ (dd : Addr) (v u z : V), d = some dd ∧ H1 dd = some (.xd (tooF v u)) ∧ (tooF v u).lookup f = some z ∧ Q z H1
theorem pe_tooF {a : Addr} {oe : Obj} {cls : Value} {d : Option Addr} {pn : List (Addr × Obj)} {e : Expr} {te : TE} {pos : Pos} {f : Str} (T : PySem.TooX.TooTxt X.K X.mg C L fI) (no : PySem.W.findIn X.K (.ref C) f = some none) (hz : Zc cls d oe) (hf : ∃ vs, oe.data = .fields vs) (he : PE (X.suite a ((a, oe) :: pn)) e te)
    (hb : attributeBase e f X.env (eval e X.env) = eval e X.env := by rfl) :
    PE (X.suite a ((a, oe) :: pn)) (.Attribute e f pos) (tTooF C a cls d f te) := by
  refine ⟨fun pins s σ H Q I h => ?_⟩
  refine attr_of hb (thn (he.run pins s σ H _ I h) fun u s1 hh => ?_)
  obtain ⟨x, H1, I1, rx, ex, ec, dd, v, u2, z, ed, ea, el, q⟩ := hh
  subst ex
  obtain rfl : u = Value.ref a := rx
  subst ec
  subst ed
  obtain ⟨ha, _⟩ := I1.pin (a, oe) (List.mem_append_left _ List.mem_cons_self)
  obtain ⟨vs, hd⟩ := hf
  have hx : ObjOk X.prog X.w H1 s1.heap dd (.xd (tooF v u2)) := I1.hok dd _ ea
  obtain ⟨mA, hns, hr⟩ := hx
  obtain ⟨od, ho, hl⟩ := lookIn_ns hns
  obtain ⟨u3, hu, ru⟩ := RelO.some_of (v := z) (o := mA f) (by rw [← el]; exact hr f)
  have J : PySem.W.InstAt s1.heap a oe C (some od) := ⟨ha, hz.1, by unfold PySem.W.notCls; rw [hd] <;> rfl, by rw [hz.2]; exact ho⟩
  exact HandSPX.exc_get I1.kIn J T.ga T.gg T.exC (PySem.W.findObj_own T.hdC no rfl (by rw [hl, hu])) (handed_of ru) ⟨z, H1, I1.tok _, ru, q⟩
end
end L2
set_option Elab.async false
set_option linter.all false
set_option maxRecDepth 100000
set_option maxHeartbeats 4000000
/-! What stands where in the program; defs and methods by their names; the heap of Tables. -/
namespace K13
open PySem PySem.Spec PyProof.Rows L2
/-! ### defs by their names -/
def There (K : PySem.W.Frag) (mg : Str → Option Value) (x : Str) (st : Stmt) (ps : List Str) : Prop := ∃ f fd, mg x = some (.ref f) ∧ Fun K x x st f fd ∧ Binds K fd ps []
def MThere (K : PySem.W.Frag) (C : Addr) (x q : Str) (st : Stmt) (ps : List Str) : Prop := ∃ f fd, Meth K C x f ∧ Fun K x q st f fd ∧ Binds K fd ps []
def MInit (K : PySem.W.Frag) (C : Addr) (st : Stmt) (ps : List Str) : Prop := ∃ f fd, Mk K C f ∧ Fun K "__init__" "Table.__init__" st f fd ∧ Binds K fd ps []
def MProp (K : PySem.W.Frag) (C : Addr) (x q : Str) (st : Stmt) (ps : List Str) : Prop := ∃ p f fd, PropOf K C x p f ∧ Fun K x q st f fd ∧ Binds K fd ps []
def There2 (K : PySem.W.Frag) (mg : Str → Option Value) (x : Str) (st : Stmt) : Prop := ∃ f fd, mg x = some (.ref f) ∧ Fun K x x st f fd ∧ Binds K fd ["table", "other_table"] [] ∧ ∀ (s : Shared) (u v : Value), BindsTo s fd ⟨[], [("other_table", u), ("table", v)]⟩ [("table", v), ("other_table", u)]
section
variable (P : Program) (w : World) (K : PySem.W.Frag) (mg : Str → Option Value) (base : Heap)
def OkN (x : Str) (CX : CXT) (k : Nat) (ps : List Str) (sp : Sp) : Prop := ∃ f fd, mg x = some (.ref f) ∧ PySem.W.keepIn K (.ref f) = true ∧ Binds K fd ps [] ∧ FnOk P w K mg base CX k f fd ps sp
def OkS (x : Str) (CX : CXT) (k : Nat) (sp : Sp) : Prop := ∃ f fd, mg x = some (.ref f) ∧ PySem.W.keepIn K (.ref f) = true ∧ Binds K fd ["table", "other_table"] [] ∧ (∀ (s : Shared) (u v : Value), BindsTo s fd ⟨[], [("other_table", u), ("table", v)]⟩ [("table", v), ("other_table", u)]) ∧ FnOk P w K mg base CX k f fd ["table", "other_table"] sp
def OkG (x : Str) (k : Nat) (ps : List Str) (sp : Sp) : Prop := ∃ f fd, mg x = some (.ref f) ∧ PySem.W.keepIn K (.ref f) = true ∧ Binds K fd ps [] ∧ FnG P w K mg base CX0 k f fd ps sp
def OkM (C : Addr) (x : Str) (CX : CXT) (k : Nat) (ps : List Str) (sp : Sp) : Prop := ∃ f fd, Meth K C x f ∧ Binds K fd ps [] ∧ FnOk P w K mg base CX k f fd ps sp
def OkI (C : Addr) (CX : CXT) (k : Nat) (ps : List Str) (sp : Sp) : Prop := ∃ f fd, Mk K C f ∧ Binds K fd ps [] ∧ FnOk P w K mg base CX k f fd ps sp
def OkP (C : Addr) (x : Str) (CX : CXT) (k : Nat) (ps : List Str) (sp : Sp) : Prop := ∃ p f fd, PropOf K C x p f ∧ Binds K fd ps [] ∧ FnOk P w K mg base CX k f fd ps sp
end
section
variable {P : Program} {w : World} {K : PySem.W.Frag} {mg : Str → Option Value} {base : Heap} {x q : Str} {st : Stmt} {ps : List Str} {CX : CXT} {k : Nat} {sp : Sp} {C : Addr}
theorem There.ok (T : There K mg x st ps) (h : ∀ f fd, Fun K x x st f fd → FnOk P w K mg base CX k f fd ps sp) : OkN P w K mg base x CX k ps sp := by
  obtain ⟨f, fd, a, b, c⟩ := T
  exact ⟨f, fd, a, b.kp, c, h f fd b⟩
theorem There2.ok (T : There2 K mg x st) (h : ∀ f fd, Fun K x x st f fd → FnOk P w K mg base CX k f fd ["table", "other_table"] sp) : OkS P w K mg base x CX k sp := by
  obtain ⟨f, fd, a, b, c, d⟩ := T
  exact ⟨f, fd, a, b.kp, c, d, h f fd b⟩
theorem OkS.n (O : OkS P w K mg base x CX k sp) : OkN P w K mg base x CX k ["table", "other_table"] sp := by
  obtain ⟨f, fd, a, b, c, _, F⟩ := O
  exact ⟨f, fd, a, b, c, F⟩
theorem There.okG (T : There K mg x st ps) (h : ∀ f fd, Fun K x x st f fd → FnG P w K mg base CX0 k f fd ps sp) : OkG P w K mg base x k ps sp := by
  obtain ⟨f, fd, a, b, c⟩ := T
  exact ⟨f, fd, a, b.kp, c, h f fd b⟩
theorem MThere.ok (T : MThere K C x q st ps) (h : ∀ f fd, Fun K x q st f fd → FnOk P w K mg base CX k f fd ps sp) : OkM P w K mg base C x CX k ps sp := by
  obtain ⟨f, fd, a, b, c⟩ := T
  exact ⟨f, fd, a, c, h f fd b⟩
theorem MInit.ok (T : MInit K C st ps) (h : ∀ f fd, Fun K "__init__" "Table.__init__" st f fd → FnOk P w K mg base CX k f fd ps sp) : OkI P w K mg base C CX k ps sp := by
  obtain ⟨f, fd, a, b, c⟩ := T
  exact ⟨f, fd, a, c, h f fd b⟩
theorem MProp.ok (T : MProp K C x q st ps) (h : ∀ f fd, Fun K x q st f fd → FnOk P w K mg base CX k f fd ps sp) : OkP P w K mg base C x CX k ps sp := by
  obtain ⟨p, f, fd, a, b, c⟩ := T
  exact ⟨p, f, fd, a, c, h f fd b⟩
end
section
variable {X : Cx} {x m : Str} {CX : CXT} {k : Nat} {ps : List Str} {sp : Sp} {C : Addr} {E : XK} {e o : Expr} {es : List Expr} {t : TA} {te : TE} {p apos pos : Pos}
theorem pe_cn (O : OkN X.prog X.w X.K X.mg X.base x CX k ps sp) (hr : Room k X.A) (hx : Passes CX X E) (ha : PA X (e :: es) t) (hg : Gl X x := by rfl) (hdb : (x == ("__debug__" : Str)) = false := by decide)
    (he : starEach (e :: es) X.env = (false, eval e X.env) :: starEach es X.env := by rfl) (hpl : (backTo pos (starEach es X.env)).any (·.1) = false := by rfl) : PE X (.Call (.Name x p) (e :: es) [] pos) (tCall sp [] E t) := by
  obtain ⟨f, fd, a, b, c, F⟩ := O
  exact pe_call F hr hg a b c .nil hx ha hdb he hpl
theorem pe_cg (hgd : X.A.guards = some []) (O : OkG X.prog X.w X.K X.mg X.base x k ps sp) (hr : Room k X.A) (ha : PA X (e :: es) t) (hg : Gl X x := by rfl) (hdb : (x == ("__debug__" : Str)) = false := by decide)
    (he : starEach (e :: es) X.env = (false, eval e X.env) :: starEach es X.env := by rfl) (hpl : (backTo pos (starEach es X.env)).any (·.1) = false := by rfl) : PE X (.Call (.Name x p) (e :: es) [] pos) (tCall sp [] E0 t) := by
  obtain ⟨f, fd, a, b, c, F⟩ := O
  exact pe_callG hgd F hr hg a b c ha hdb he hpl
/-- f(other_table=a, table=b) -/
def tCallS (sp : Sp) (E : XK) (tk : TA) : TE := fun σ H Q => tk σ H fun zs H2 => ∃ a b, zs = [a, b] ∧ sp [b, a] H2 Q E
theorem pe_cs {kws : List Keyword} {tk : TA} (O : OkS X.prog X.w X.K X.mg X.base x CX k sp) (hr : Room k X.A) (hx : Passes CX X E) (hkw : PK X kws tk) (hg : Gl X x := by rfl)
    (hall : (backToKw pos (keywordEach kws X.env)).all (·.1.isSome) = true := by rfl) (hks : (backToKw pos (keywordEach kws X.env)).filterMap (·.1) = (["other_table", "table"] : List Str) := by rfl) (hdb : (x == ("__debug__" : Str)) = false := by decide)
    (hpl : ((backTo pos (starEach [] X.env)).any (·.1) || (backToKw pos (keywordEach kws X.env)).any (·.1.isNone)) = false := by rfl) :
    PE X (.Call (.Name x p) [] kws pos) (tCallS sp E tk) := by
  obtain ⟨f, fd, hm, hk, _, hsw, F⟩ := O
  refine ⟨fun pins s σ H Q I h => ?_⟩
  refine wpAny_Call_Name_kw (ld_glob I hg hm ?_ hdb)
  refine PySem.W.callWith_KW0 (h₀ := X.base) I.ok.mod.kin hk hall ?_ hpl
  refine thn (hkw.run pos pins s σ H _ I h) fun ws s2 ⟨zs, H2, I2, rz, a, b, ez, q2⟩ => ⟨I2.kIn, ?_⟩
  rw [hks]
  subst ez
  obtain ⟨u, v, rfl, ru, rv⟩ := vals2 rz
  refine wpAny_call (codeAny_mono (F.run X.A X.stack s2 H2 ⟨[], [("other_table", u), ("table", v)]⟩ [v, u] [b, a] Q E hr I2.env0 (hsw s2 u v) (.cons rv (.cons ru .nil)) q2) fun r s' hq => ?_)
  cases r with
  | error e => exact hx pins σ H2 s2 e s' I2 hq
  | ok fl =>
    cases fl with
    | ret u => exact I2.after hq
    | next => exact False.elim hq
    | brk => exact False.elim hq
    | cont => exact False.elim hq
theorem pe_mn {pl : Sem Bool} (c : Cls X.K C) (O : OkM X.prog X.w X.K X.mg X.base C m CX k ps sp) (hr : Room k X.A) (hx : Passes CX X E) (ho : PE X o te) (ha : PA X (e :: es) t)
    (hs : starEach (e :: es) X.env = (false, eval e X.env) :: starEach es X.env := by rfl) (hpl : (backTo pos (starEach es X.env)).any (·.1) = false := by rfl)
    (hc : eval (.Call (.Attribute o m apos) (e :: es) [] pos) X.env = (do let ov ← eval o X.env; standAt apos.atName; let (f, first) ← holding [ov] (getMethod ov m pl); callWith pos f first (backTo pos (starEach (e :: es) X.env)) (backToKw pos (keywordEach [] X.env))) := by rfl) :
    PE X (.Call (.Attribute o m apos) (e :: es) [] pos) (tMeth C m sp [] E te t) := by
  obtain ⟨f, fd, a, b, F⟩ := O
  exact pe_meth ho c a F hr b .nil hx ha hs hpl hc
theorem pe_mn0 {pl : Sem Bool} (c : Cls X.K C) (O : OkM X.prog X.w X.K X.mg X.base C m CX k ps sp) (hr : Room k X.A) (hx : Passes CX X E) (ho : PE X o te)
    (hc : eval (.Call (.Attribute o m apos) [] [] pos) X.env = (do let ov ← eval o X.env; standAt apos.atName; let (f, first) ← holding [ov] (getMethod ov m pl); callWith pos f first (backTo pos (starEach [] X.env)) (backToKw pos (keywordEach [] X.env))) := by rfl) :
    PE X (.Call (.Attribute o m apos) [] [] pos) (tMeth C m sp [] E te tNil) := by
  obtain ⟨f, fd, a, b, F⟩ := O
  exact pe_meth0 ho c a F hr b .nil hx hc
theorem pe_mk (O : OkI X.prog X.w X.K X.mg X.base C CX k ps sp) (hr : Room (k + 1) X.A) (hm : X.mg x = some (.ref C)) (hx : Passes CX X E) (ha : PA X (e :: es) t) (hg : Gl X x := by rfl) (hdb : (x == ("__debug__" : Str)) = false := by decide)
    (he : starEach (e :: es) X.env = (false, eval e X.env) :: starEach es X.env := by rfl) (hpl : (backTo pos (starEach es X.env)).any (·.1) = false := by rfl) : PE X (.Call (.Name x p) (e :: es) [] pos) (tMake C sp [] E t) := by
  obtain ⟨f, fd, a, b, F⟩ := O
  exact pe_make a F hr hg hm b .nil hx ha hdb he hpl
theorem pe_pr (c : Cls X.K C) (O : OkP X.prog X.w X.K X.mg X.base C m CX k ps sp) (hr : Room (k + 1) X.A) (hx : Passes CX X.nox E) (ho : PE X o te) (hab : attributeBase o m X.env (eval o X.env) = eval o X.env := by rfl) :
    PE X (.Attribute o m pos) (tProp C sp [] E te) := by
  obtain ⟨p, f, fd, a, b, F⟩ := O
  exact pe_prop ho c a F hr b .nil hx hab
end
/-! ### Tables in the heap -/
def tf (l : Addr) (n : Nat) : List (Str × V) := putF "own_length" (.int (n : Int)) (putF "own_days" (.ref l) [])
theorem dl_ne : ¬ (("own_days" : Str) = "own_length") := by decide +kernel
theorem tf_eq (l : Addr) (n : Nat) : tf l n = ([("own_days", V.ref l), ("own_length", V.int (n : Int))] : List (Str × V)) := by
  show (if ("own_days" : Str) = "own_length" then [(("own_days" : Str), V.int (n : Int))] else (("own_days" : Str), V.ref l) :: putF "own_length" (V.int (n : Int)) []) = ([("own_days", V.ref l), ("own_length", V.int (n : Int))] : List (Str × V))
  rw [if_neg dl_ne]
  all_goals rfl
theorem tf_days (l : Addr) (n : Nat) : (tf l n).lookup ("own_days" : Str) = some (.ref l) := by
  unfold tf
  rw [lookup_putF, if_neg dl_ne, lookup_putF, if_pos rfl]
theorem tf_len (l : Addr) (n : Nat) : (tf l n).lookup ("own_length" : Str) = some (.int (n : Int)) := by
  unfold tf
  rw [lookup_putF, if_pos rfl]
theorem tf_no (l : Addr) (n : Nat) {m : Str} (h1 : ¬ m = "own_length") (h2 : ¬ m = "own_days") : (tf l n).lookup m = none := by
  unfold tf
  rw [lookup_putF, if_neg h1, lookup_putF, if_neg h2]
  all_goals rfl
def iL (ds : List Int) : HO := .lst (ds.map V.int)
/-- at p a Table whose list, at l, is ds -/
structure TabA (C : Addr) (H : Hp) (p l : Addr) (ds : List Int) : Prop where
  ob : ∃ dx, H p = some (.ins C dx (tf l ds.length))
  lst : H l = some (iL ds)
def TabAt (C : Addr) (H : Hp) (p : Addr) (ds : List Int) : Prop := ∃ l, TabA C H p l ds
theorem TabA.same {C : Addr} {H H' : Hp} {p l : Addr} {ds : List Int} (h : TabA C H p l ds) (s : Same H H') : TabA C H' p l ds := by
  obtain ⟨⟨dx, a⟩, b⟩ := h
  exact ⟨⟨dx, s _ _ a⟩, s _ _ b⟩
theorem TabAt.same {C : Addr} {H H' : Hp} {p : Addr} {ds : List Int} (h : TabAt C H p ds) (s : Same H H') : TabAt C H' p ds := by
  obtain ⟨l, a⟩ := h
  exact ⟨l, a.same s⟩
/-- all but what stands at a is as it was -/
def But (a : Addr) (H H' : Hp) : Prop := ∀ b o, H b = some o → b ≠ a → H' b = some o
theorem But.trans {a : Addr} {H H1 H2 : Hp} (x : But a H H1) (y : But a H1 H2) : But a H H2 := fun b o e h => y b o (x b o e h) h
theorem Same.but {a : Addr} {H H' : Hp} (s : Same H H') : But a H H' := fun b o e _ => s b o e
theorem same_new {H : Hp} {p : Addr} {o : HO} (h : H p = none) : Same H (upd H p o) := fun b x e => by
  rw [upd_ne (ne_of_none e h)]
  exact e
theorem but_upd {H : Hp} {p : Addr} {o : HO} : But p H (upd H p o) := fun b x e h => by
  rw [upd_ne h]
  exact e
theorem TabA.but {C : Addr} {H H' : Hp} {p l a : Addr} {ds : List Int} (h : TabA C H p l ds) (s : But a H H') (h1 : p ≠ a) (h2 : l ≠ a) : TabA C H' p l ds := by
  obtain ⟨⟨dx, u⟩, v⟩ := h
  exact ⟨⟨dx, s _ _ u h1⟩, s _ _ v h2⟩
theorem iL_seq {K : PySem.W.Frag} {H : Hp} {a : Addr} {ds : List Int} (h : H a = some (iL ds)) : SqL K H a (ds.map V.int) := SqL.of h
theorem iL_at {ds : List Int} {i : Nat} (h : i < ds.length) : (ds.map V.int)[i]? = some (.int (ds.getD i 0)) := by
  rw [List.getElem?_map, List.getElem?_eq_getElem h, List.getD_eq_getElem?_getD, List.getElem?_eq_getElem h]
  rfl
theorem iL_len {ds : List Int} : (ds.map V.int).length = ds.length := List.length_map ..
theorem line600 {n : Nat} (h : n ≤ 1000) : n < sizeLine := small1000 h
/-! ### the text -/
abbrev s_isInteger : Stmt := topS 9
theorem c_isInteger : FnScope ["value"] ["value"] (defScope s_isInteger) := ⟨rfl, rfl, rfl, by decide +kernel, rfl, by decide +kernel, by decide +kernel⟩
abbrev s_isList : Stmt := topS 10
theorem c_isList : FnScope ["value"] ["value"] (defScope s_isList) := ⟨rfl, rfl, rfl, by decide +kernel, rfl, by decide +kernel, by decide +kernel⟩
abbrev s_isDay : Stmt := topS 11
theorem c_isDay : FnScope ["value"] ["value"] (defScope s_isDay) := ⟨rfl, rfl, rfl, by decide +kernel, rfl, by decide +kernel, by decide +kernel⟩
abbrev s_wantMost : Stmt := topS 13
theorem c_wantMost : FnScope ["what", "limit", "number"] ["what", "limit", "number"] (defScope s_wantMost) := ⟨rfl, rfl, rfl, by decide +kernel, rfl, by decide +kernel, by decide +kernel⟩
abbrev s_floorPart : Stmt := topS 16
theorem c_floorPart : FnScope ["day", "length"] ["day", "length"] (defScope s_floorPart) := ⟨rfl, rfl, rfl, by decide +kernel, rfl, by decide +kernel, by decide +kernel⟩
abbrev s_isTable : Stmt := topS 17
theorem c_isTable : FnScope ["value", "day", "place"] ["value"] (defScope s_isTable) := ⟨rfl, rfl, rfl, by decide +kernel, rfl, by decide +kernel, by decide +kernel⟩
abbrev s_commonLength : Stmt := topS 20
theorem c_commonLength : FnScope ["table", "other_table", "length"] ["table", "other_table"] (defScope s_commonLength) := ⟨rfl, rfl, rfl, by decide +kernel, rfl, by decide +kernel, by decide +kernel⟩
abbrev s_behind : Stmt := topS 21
theorem c_behind : FnScope ["table", "other_table", "length", "day"] ["table", "other_table"] (defScope s_behind) := ⟨rfl, rfl, rfl, by decide +kernel, rfl, by decide +kernel, by decide +kernel⟩
abbrev s_later : Stmt := topS 22
theorem c_later : FnScope ["table", "other_table", "length", "day"] ["table", "other_table"] (defScope s_later) := ⟨rfl, rfl, rfl, by decide +kernel, rfl, by decide +kernel, by decide +kernel⟩
abbrev s_sooner : Stmt := topS 23
theorem c_sooner : FnScope ["table", "other_table", "length", "day"] ["table", "other_table"] (defScope s_sooner) := ⟨rfl, rfl, rfl, by decide +kernel, rfl, by decide +kernel, by decide +kernel⟩
abbrev s_gapsOf : Stmt := topS 24
theorem c_gapsOf : FnScope ["table", "other_table", "length", "day"] ["table", "other_table"] (defScope s_gapsOf) := ⟨rfl, rfl, rfl, by decide +kernel, rfl, by decide +kernel, by decide +kernel⟩
abbrev s_firstAbove : Stmt := topS 25
theorem c_firstAbove : FnScope ["table", "other_table", "day", "gap"] ["table", "other_table"] (defScope s_firstAbove) := ⟨rfl, rfl, rfl, by decide +kernel, rfl, by decide +kernel, by decide +kernel⟩
abbrev s_mostAbove : Stmt := topS 26
theorem c_mostAbove : FnScope ["table", "other_table"] ["table", "other_table"] (defScope s_mostAbove) := ⟨rfl, rfl, rfl, by decide +kernel, rfl, by decide +kernel, by decide +kernel⟩
abbrev s_firstParting : Stmt := topS 27
theorem c_firstParting : FnScope ["table", "other_table", "day", "gap"] ["table", "other_table"] (defScope s_firstParting) := ⟨rfl, rfl, rfl, by decide +kernel, rfl, by decide +kernel, by decide +kernel⟩
abbrev s_pot : Stmt := topS 29
theorem c_pot : FnScope ["_law_script", "_law_k", "_law_cell"] ["_law_script", "_law_k"] (defScope s_pot) := ⟨rfl, rfl, rfl, by decide +kernel, rfl, by decide +kernel, by decide +kernel⟩
abbrev s_draw : Stmt := topS 30
theorem c_draw : FnScope ["_law_pot_here", "_law_size", "_law_digit"] ["_law_pot_here", "_law_size"] (defScope s_draw) := ⟨rfl, rfl, rfl, by decide +kernel, rfl, by decide +kernel, by decide +kernel⟩
abbrev s_pick : Stmt := topS 31
theorem c_pick : FnScope ["_law_pot_here", "_law_some"] ["_law_pot_here", "_law_some"] (defScope s_pick) := ⟨rfl, rfl, rfl, by decide +kernel, rfl, by decide +kernel, by decide +kernel⟩
abbrev s_days : Stmt := topS 32
theorem c_days : FnScope ["_law_pot_here", "_law_length", "_law_first", "_law_days_here", "_law_left", "_law_turn", "_law_step"] ["_law_pot_here", "_law_length", "_law_first"] (defScope s_days) := ⟨rfl, rfl, rfl, by decide +kernel, rfl, by decide +kernel, by decide +kernel⟩
abbrev s_on : Stmt := topS 33
theorem c_on : FnScope ["_law_days_here", "_law_day", "_law_part"] ["_law_days_here", "_law_day"] (defScope s_on) := ⟨rfl, rfl, rfl, by decide +kernel, rfl, by decide +kernel, by decide +kernel⟩
abbrev s_common : Stmt := topS 36
theorem c_common : FnScope ["_law_one", "_law_other", "_law_found"] ["_law_one", "_law_other"] (defScope s_common) := ⟨rfl, rfl, rfl, by decide +kernel, rfl, by decide +kernel, by decide +kernel⟩
abbrev s_told : Stmt := topS 37
theorem c_told : FnScope ["_law_table"] ["_law_table"] (defScope s_told) := ⟨rfl, rfl, rfl, by decide +kernel, rfl, by decide +kernel, by decide +kernel⟩
abbrev s_joinedRight : Stmt := topS 38
theorem c_joinedRight : FnScope ["_law_table", "_law_days_here", "_law_other_table", "_law_others", "_law_length", "_law_some", "_law_more", "_law_due", "_law_told_here", "_law_again", "_law_day", "_law_one"] ["_law_table", "_law_days_here", "_law_other_table", "_law_others"] (defScope s_joinedRight) := ⟨rfl, rfl, rfl, by decide +kernel, rfl, by decide +kernel, by decide +kernel⟩
abbrev s_heldRight : Stmt := topS 39
theorem c_heldRight : FnScope ["_law_table", "_law_days_here", "_law_other_table", "_law_others", "_law_length", "_law_gaps", "_law_above", "_law_apart", "_law_due", "_law_told_here", "_law_again", "_law_day"] ["_law_table", "_law_days_here", "_law_other_table", "_law_others"] (defScope s_heldRight) := ⟨rfl, rfl, rfl, by decide +kernel, rfl, by decide +kernel, by decide +kernel⟩
abbrev s_backRight : Stmt := topS 40
theorem c_backRight : FnScope ["_law_table", "_law_other_table", "_law_both", "_law_latest", "_law_soonest"] ["_law_table", "_law_other_table"] (defScope s_backRight) := ⟨rfl, rfl, rfl, by decide +kernel, rfl, by decide +kernel, by decide +kernel⟩
abbrev s_refusal : Stmt := topS 41
theorem c_refusal : FnScope ["_law_deed", "_law_table", "_law_other_table", "e"] ["_law_deed", "_law_table", "_law_other_table"] (defScope s_refusal) := ⟨rfl, rfl, rfl, by decide +kernel, rfl, by decide +kernel, by decide +kernel⟩
abbrev s_longRight : Stmt := topS 42
theorem c_longRight : FnScope ["_law_pot_here", "_law_days_here", "_law_others", "_law_long", "_law_wide", "_law_other", "_law_deeds", "_law_deed"] ["_law_pot_here"] (defScope s_longRight) := ⟨rfl, rfl, rfl, by decide +kernel, rfl, by decide +kernel, by decide +kernel⟩
abbrev s_right : Stmt := topS 43
theorem c_right : FnScope ["_law_pot_here", "_law_one", "_law_first", "_law_days_here", "_law_way", "_law_others", "_law_place", "_law_risen", "_law_table", "_law_other_table", "_law_day", "_law_at", "_law_served"] ["_law_pot_here"] (defScope s_right) := ⟨rfl, rfl, rfl, by decide +kernel, rfl, by decide +kernel, by decide +kernel⟩
abbrev s_law : Stmt := topS 44
theorem c_law : FnScope ["_law_script", "_law_k"] ["_law_script"] (defScope s_law) := ⟨rfl, rfl, rfl, by decide +kernel, rfl, by decide +kernel, by decide +kernel⟩
abbrev s_TInit : Stmt := inClass (topS 18) 1
theorem c_TInit : FnScope ["self", "days"] ["self", "days"] (defScope s_TInit) := ⟨rfl, rfl, rfl, by decide +kernel, rfl, by decide +kernel, by decide +kernel⟩
abbrev s_TLength : Stmt := inClass (topS 18) 3
theorem c_TLength : FnScope ["self"] ["self"] (defScope s_TLength) := ⟨rfl, rfl, rfl, by decide +kernel, rfl, by decide +kernel, by decide +kernel⟩
abbrev s_TDays : Stmt := inClass (topS 18) 4
theorem c_TDays : FnScope ["self"] ["self"] (defScope s_TDays) := ⟨rfl, rfl, rfl, by decide +kernel, rfl, by decide +kernel, by decide +kernel⟩
abbrev s_TServed : Stmt := inClass (topS 18) 7
theorem c_TServed : FnScope ["self", "day", "part"] ["self", "day"] (defScope s_TServed) := ⟨rfl, rfl, rfl, by decide +kernel, rfl, by decide +kernel, by decide +kernel⟩
abbrev s_TFirstBy : Stmt := inClass (topS 18) 9
theorem c_TFirstBy : FnScope ["self", "day", "part", "early", "late", "middle"] ["self", "day"] (defScope s_TFirstBy) := ⟨rfl, rfl, rfl, by decide +kernel, rfl, by decide +kernel, by decide +kernel⟩
abbrev s_TByTable : Stmt := inClass (topS 18) 19
theorem c_TByTable : FnScope ["self", "day"] ["self"] (defScope s_TByTable) := ⟨rfl, rfl, rfl, by decide +kernel, rfl, by decide +kernel, by decide +kernel⟩
abbrev s_TTilTable : Stmt := inClass (topS 18) 20
theorem c_TTilTable : FnScope ["self", "day"] ["self"] (defScope s_TTilTable) := ⟨rfl, rfl, rfl, by decide +kernel, rfl, by decide +kernel, by decide +kernel⟩
abbrev s_TRepeats : Stmt := inClass (topS 18) 22
theorem c_TRepeats : FnScope ["self", "length", "day"] ["self", "length"] (defScope s_TRepeats) := ⟨rfl, rfl, rfl, by decide +kernel, rfl, by decide +kernel, by decide +kernel⟩
abbrev s_TShortest : Stmt := inClass (topS 18) 23
theorem c_TShortest : FnScope ["self", "length"] ["self"] (defScope s_TShortest) := ⟨rfl, rfl, rfl, by decide +kernel, rfl, by decide +kernel, by decide +kernel⟩
abbrev s_TIsSame : Stmt := inClass (topS 18) 24
theorem c_TIsSame : FnScope ["self", "other_table"] ["self", "other_table"] (defScope s_TIsSame) := ⟨rfl, rfl, rfl, by decide +kernel, rfl, by decide +kernel, by decide +kernel⟩
/-- what the walk asks of the top as it stands -/
structure Txt (K : PySem.W.Frag) (mg : Str → Option Value) (C B L fB : Addr) : Prop where
  cl : Cls K C
  nDays : NoAttr K C "own_days"
  nLen : NoAttr K C "own_length"
  gT : mg "Table" = some (.ref C)
  gM : ∃ t, mg "MOST" = some (.int 600 t)
  gLcm : mg "lcm" = some (.builtin "math.lcm")
  too : PySem.TooX.TooTxt K mg B L fB
  cA : PySem.W.findIn K (.ref C) "__class__" = some (some (.builtin "object.__class__"))
  cN : PySem.W.specialIn K (.builtin "object.__class__") "__get__" = some (some (.builtin "getset_descriptor.__get__"))
  cT : PySem.W.takesIn K (.builtin "object.__class__") = some true
  cM : PySem.W.mroIn K C (.type "object") = some true
  kOne : PySem.W.kitOne K (.ref C) (.ref C) = some true
  g_isinstance : mg "isinstance" = none
  g_int : mg "int" = none
  g_bool : mg "bool" = none
  g_list : mg "list" = none
  g_tuple : mg "tuple" = none
  g_len : mg "len" = none
  g_all : mg "all" = none
  g_range : mg "range" = none
  g_max : mg "max" = none
  g_min : mg "min" = none
  g_enumerate : mg "enumerate" = none
  g_divmod : mg "divmod" = none
  g_abs : mg "abs" = none
  g_repr : mg "repr" = none
  d_isInteger : There K mg "is_integer" s_isInteger ["value"]
  d_isList : There K mg "is_list" s_isList ["value"]
  d_isDay : There K mg "is_day" s_isDay ["value"]
  d_wantMost : There K mg "want_at_most" s_wantMost ["what", "limit", "number"]
  d_floorPart : There K mg "floor_part" s_floorPart ["day", "length"]
  d_isTable : There K mg "is_table" s_isTable ["value"]
  d_commonLength : There K mg "common_length" s_commonLength ["table", "other_table"]
  d_behind : There2 K mg "behind" s_behind
  d_later : There2 K mg "later" s_later
  d_sooner : There2 K mg "sooner" s_sooner
  d_gapsOf : There K mg "gaps_of" s_gapsOf ["table", "other_table"]
  d_firstAbove : There2 K mg "first_above" s_firstAbove
  d_mostAbove : There2 K mg "most_above" s_mostAbove
  d_firstParting : There2 K mg "first_parting" s_firstParting
  d_pot : There K mg "_law_pot" s_pot ["_law_script", "_law_k"]
  d_draw : There K mg "_law_draw" s_draw ["_law_pot_here", "_law_size"]
  d_pick : There K mg "_law_pick" s_pick ["_law_pot_here", "_law_some"]
  d_days : There K mg "_law_days" s_days ["_law_pot_here", "_law_length", "_law_first"]
  d_on : There K mg "_law_on" s_on ["_law_days_here", "_law_day"]
  d_common : There K mg "_law_common" s_common ["_law_one", "_law_other"]
  d_told : There K mg "_law_told" s_told ["_law_table"]
  d_joinedRight : There K mg "_law_joined_right" s_joinedRight ["_law_table", "_law_days_here", "_law_other_table", "_law_others"]
  d_heldRight : There K mg "_law_held_right" s_heldRight ["_law_table", "_law_days_here", "_law_other_table", "_law_others"]
  d_backRight : There K mg "_law_back_right" s_backRight ["_law_table", "_law_other_table"]
  d_refusal : There K mg "_law_refusal" s_refusal ["_law_deed", "_law_table", "_law_other_table"]
  d_longRight : There K mg "_law_long_right" s_longRight ["_law_pot_here"]
  d_right : There K mg "_law_right" s_right ["_law_pot_here"]
  m_Init : MInit K C s_TInit ["self", "days"]
  m_Length : MProp K C "length" "Table.length" s_TLength ["self"]
  m_Days : MThere K C "days" "Table.days" s_TDays ["self"]
  m_Served : MThere K C "served" "Table.served" s_TServed ["self", "day"]
  m_FirstBy : MThere K C "first_by" "Table.first_by" s_TFirstBy ["self", "day"]
  m_ByTable : MThere K C "by_table" "Table.by_table" s_TByTable ["self"]
  m_TilTable : MThere K C "til_table" "Table.til_table" s_TTilTable ["self"]
  m_Repeats : MThere K C "repeats" "Table.repeats" s_TRepeats ["self", "length"]
  m_Shortest : MThere K C "shortest" "Table.shortest" s_TShortest ["self"]
  m_IsSame : MThere K C "is_same" "Table.is_same" s_TIsSame ["self", "other_table"]

end K13
set_option Elab.async false
set_option linter.all false
set_option maxRecDepth 100000
set_option maxHeartbeats 4000000
/-! Comprehensions whose turns leave what is tracked as it was. -/
namespace K13
open PySem PySem.Spec PyProof.Rows L2
theorem not_le_of {n l : Int} (c : ¬ decide (l < n) = true) : n ≤ l := by simpa using c
theorem iteB {b : Bool} {A B : Prop} (hb : b = true) (h : A) : if b = true then A else B := by
  rw [if_pos hb]
  exact h
theorem iteBf {b : Bool} {A B : Prop} (hb : b = false) (h : B) : if b = true then A else B := by
  rw [hb, if_neg Bool.false_ne_true]
  exact h
theorem iteD {c : Prop} [Decidable c] {A B : Prop} (hc : c) (h : A) : if decide c = true then A else B := iteB (decide_eq_true hc) h
theorem iteDn {c : Prop} [Decidable c] {A B : Prop} (hc : ¬ c) (h : B) : if decide c = true then A else B := iteBf (decide_eq_false hc) h
theorem iteND {c : Prop} [Decidable c] {A B : Prop} (hc : c) (h : B) : if (!decide c) = true then A else B := iteBf (by rw [decide_eq_true hc]; rfl) h
theorem iteNDn {c : Prop} [Decidable c] {A B : Prop} (hc : ¬ c) (h : A) : if (!decide c) = true then A else B := iteB (by rw [decide_eq_false hc]; rfl) h
theorem iL_get {ds : List Int} {i : Nat} {x : V} (h : (ds.map V.int)[i]? = some x) : x = .int (ds.getD i 0) ∧ i < ds.length := by
  have hi : i < ds.length := by
    have := (List.getElem?_eq_some_iff.mp h).1
    rw [List.length_map] at this
    exact this
  rw [iL_at hi] at h
  exact ⟨(Option.some.inj h).symm, hi⟩
theorem q_of {Q : VK} {v v' : V} {H : Hp} (e : v' = v) (h : Q v H) : Q v' H := by
  subst e
  exact h
theorem vb_true {c : Prop} [Decidable c] (h : c) : V.bl (decide c) = V.bl true := by rw [decide_eq_true h]
theorem vb_false {c : Prop} [Decidable c] (h : ¬ c) : V.bl (decide c) = V.bl false := by rw [decide_eq_false h]
theorem at_end {xs : List V} {v : V} {z : Int} (ez : z = -1) (hl : 0 < xs.length) (h : xs[xs.length - 1]? = some v) : atI xs z = some v := by
  subst ez
  have e : xs = xs.take (xs.length - 1) ++ [v] := by
    have h2 := List.take_append_drop (xs.length - 1) xs
    have h3 : xs.drop (xs.length - 1) = [v] := by
      rw [List.drop_eq_getElem_cons (by omega)]
      have h4 : xs[xs.length - 1]'(by omega) = v := by
        rw [List.getElem?_eq_getElem (by omega)] at h
        exact Option.some.inj h
      rw [h4, List.drop_eq_nil_of_le (by omega)]
    rw [h3] at h2
    exact h2.symm
  rw [e]
  exact atI_last _ _
/-- what a comprehension asks behind its source -/
def LcGoal (J : It) (g : TG) (tt : TT) (te : TE) (vs : List Nat) (σ : L2.St) (H1 : Hp) (Q : VK) : Prop :=
  ∀ D, H1 D = none → ∃ W : Nat → Nat → Hp → Prop, (∃ m, W 0 m (upd H1 D (.lst []))) ∧ ∀ i m H, W i m H → (J.stop i H ∧ Q (.ref D) H) ∨
    (J.go i H ∧ ∃ Nx : Hp → Prop, (∀ H', Nx H' → ∃ m', m' < m ∧ W (i + 1) m' H') ∧ ∀ x H', J.yld i H x H' → g x (wipe σ vs) H' fun σ2 H2 => wipe σ2 vs = wipe σ vs ∧ tt σ2 H2 fun b H3 =>
      if b = true then te σ2 H3 fun y H4 => ∃ acc, H4 D = some (.lst acc) ∧ acc.length < sizeLine ∧ Nx (upd H4 D (.lst (acc ++ [y]))) else Nx H3)
def tLg (wi : TI) (g : TG) (tt : TT) (te : TE) (vs : List Nat) : TE := fun σ H Q => wi σ H fun J H1 => LcGoal J g tt te vs σ H1 Q
section
variable {X : Cx} {elt tg iter : Expr} {ifs : List Expr} {scope : Scope} {own : List (Str × Nat)} {pos : Pos} {wi : TI} {g : TG} {tt : TT} {te : TE}
theorem pe_lg (hc : X.calm = true) (hN : X.N.Nodup) (hi : PI X tg iter wi) (ok : BlkOk X.N X.env.scope scope own)
    (hg : ∀ (s : Shared) (H : Hp) (C : Addr) (cl : List (Str × Addr)) (fp : List Addr), PG (X.blk s H scope (compEnvC scope cl C X.env) fp) tg g)
    (ht : ∀ (s : Shared) (H : Hp) (C : Addr) (cl : List (Str × Addr)) (fp : List Addr), PTs (X.blk s H scope (compEnvC scope cl C X.env) fp) ifs tt)
    (he : ∀ (s : Shared) (H : Hp) (C : Addr) (cl : List (Str × Addr)) (fp : List Addr), PE (X.blk s H scope (compEnvC scope cl C X.env) fp) elt te)
    (hs : ∀ x, foldedSetIterable iter X.env x = pure x := by intro _; rfl) : PE X (.ListComp elt [⟨tg, iter, ifs, 0⟩] scope pos) (tLg wi g tt te (own.map (·.2))) := pe_lc hc hN hi ok hg ht he hs
theorem ps_setLg {i : Nat} {y : Str} {py spos : Pos} (hc : X.calm = true) (hN : X.N.Nodup) (hy : X.N[i]? = some y) (hyl : X.env.scope.names.lookup y = some .local)
    (hsw : swapsWith (.ListComp elt [⟨tg, iter, ifs, 0⟩] scope pos) (some (.Name y py)) spos.line X.env = pure true) (hi : PI X tg iter wi) (ok : BlkOk X.N X.env.scope scope own)
    (hg : ∀ (s : Shared) (H : Hp) (C : Addr) (cl : List (Str × Addr)) (fp : List Addr), PG (X.blk s H scope (compEnvC scope cl C X.env) fp) tg g)
    (ht : ∀ (s : Shared) (H : Hp) (C : Addr) (cl : List (Str × Addr)) (fp : List Addr), PTs (X.blk s H scope (compEnvC scope cl C X.env) fp) ifs tt)
    (he : ∀ (s : Shared) (H : Hp) (C : Addr) (cl : List (Str × Addr)) (fp : List Addr), PE (X.blk s H scope (compEnvC scope cl C X.env) fp) elt te)
    (hs : ∀ x, foldedSetIterable iter X.env x = pure x := by intro _; rfl) : PS X (.Assign [.Name y py] (.ListComp elt [⟨tg, iter, ifs, 0⟩] scope pos) spos) (tAsg (tLg wi g tt te (own.map (·.2))) (gName i)) :=
  ps_setLc hc hN hy hyl hsw hi ok hg ht he hs
end
theorem same_put {H1 H : Hp} {D : Addr} {o : HO} (nD : H1 D = none) (s : Same H1 H) : Same H1 (upd H D o) := fun b u e => by
  rw [upd_ne (ne_of_none e nD)]
  exact s b u e
section
variable {te : TE} {tt : TT} {vs : List Nat} {σ : L2.St} {H1 : Hp} {Q : VK} {j : Nat}
/-- [e for x in range(..)] -/
theorem lcR {lo : Int} {n : Nat} (f : Nat → V) (hn : n ≤ 1000) (hw : ∀ x, wipe ((wipe σ vs).set j (some x)) vs = wipe σ vs)
    (ht : ∀ i, i < n → ∀ H (R : VK), Same H1 H → (∀ H4, Same H H4 → R (f i) H4) → te ((wipe σ vs).set j (some (.int (lo + i)))) H R)
    (hq : ∀ D H', H1 D = none → Same H1 H' → H' D = some (.lst ((List.range n).map f)) → Q (.ref D) H') : LcGoal (Itr lo n) (gName j) tYes te vs σ H1 Q := by
  intro D nD
  refine lc_range (lo := lo) (n := n) (fun i H => Same H1 H ∧ H D = some (.lst ((List.range i).map f))) ⟨same_new nD, upd_same⟩ (fun i H hi p => ?_) (fun H p => hq D H nD p.1 p.2)
  obtain ⟨s, hD⟩ := p
  refine ⟨hw _, ?_⟩
  unfold tYes
  dsimp only
  rw [if_pos rfl]
  refine ht i hi H _ s fun H4 s4 => ⟨_, s4 _ _ hD, ?_, same_put nD (s.trans s4), ?_⟩
  · rw [List.length_map, List.length_range]
    exact line600 (by omega)
  · rw [upd_same, List.range_succ, List.map_append]
    rfl
/-- [x for x in range(..) if t] -/
theorem lcRF {lo : Int} {n : Nat} (p : Nat → Bool) (hn : n ≤ 1000) (hj : ∀ x, ((wipe σ vs).set j (some x))[j]? = some (some x)) (hw : ∀ x, wipe ((wipe σ vs).set j (some x)) vs = wipe σ vs)
    (ht : ∀ i, i < n → ∀ H (R : Bool → Hp → Prop), Same H1 H → (∀ H4, Same H H4 → R (p i) H4) → tt ((wipe σ vs).set j (some (.int (lo + i)))) H R)
    (hq : ∀ D H', H1 D = none → Same H1 H' → H' D = some (.lst (((List.range n).filter p).map fun i : Nat => V.int (lo + (i : Int)))) → Q (.ref D) H') : LcGoal (Itr lo n) (gName j) tt (tVar j) vs σ H1 Q := by
  intro D nD
  refine lc_range (lo := lo) (n := n) (fun i H => Same H1 H ∧ H D = some (.lst (((List.range i).filter p).map fun i : Nat => V.int (lo + (i : Int))))) ⟨same_new nD, upd_same⟩ (fun i H hi q => ?_) (fun H q => hq D H nD q.1 q.2)
  obtain ⟨s, hD⟩ := q
  refine ⟨hw _, ht i hi H _ s fun H4 s4 => ?_⟩
  cases e : p i with
  | true =>
    refine iteT ⟨_, hj _, _, s4 _ _ hD, ?_, same_put nD (s.trans s4), ?_⟩
    · rw [List.length_map]
      exact Nat.lt_of_le_of_lt (List.length_filter_le _ _) (by rw [List.length_range]; exact line600 (by omega))
    · rw [upd_same, List.range_succ, List.filter_append, List.map_append]
      simp [e]
  | false =>
    refine iteF ⟨s.trans s4, ?_⟩
    rw [s4 _ _ hD, List.range_succ, List.filter_append]
    simp [e]
/-- [e for x in xs] -/
theorem lcL {K : PySem.W.Frag} {a : Addr} {xs : List V} (f : V → V) (hs : SqL K H1 a xs) (hn : xs.length ≤ 1000) (hw : ∀ x, wipe ((wipe σ vs).set j (some x)) vs = wipe σ vs)
    (ht : ∀ (i : Nat) x, xs[i]? = some x → ∀ H (R : VK), Same H1 H → (∀ H4, Same H H4 → R (f x) H4) → te ((wipe σ vs).set j (some x)) H R)
    (hq : ∀ D H', H1 D = none → Same H1 H' → H' D = some (.lst (xs.map f)) → Q (.ref D) H') : LcGoal (Itl K a) (gName j) tYes te vs σ H1 Q := by
  intro D nD
  refine lc_list (K := K) (a := a) (xs := xs) (fun i H => Same H1 H ∧ H D = some (.lst ((xs.take i).map f))) ⟨same_new nD, by rw [upd_same, List.take_zero]; rfl⟩ (fun i H hi p => p.1.seq hs) (fun i x H hx p => ?_) (fun H p => ?_)
  · obtain ⟨s, hD⟩ := p
    have hi : i < xs.length := (List.getElem?_eq_some_iff.mp hx).1
    refine ⟨hw _, ?_⟩
    unfold tYes
    dsimp only
    rw [if_pos rfl]
    refine ht i x hx H _ s fun H4 s4 => ⟨_, s4 _ _ hD, ?_, same_put nD (s.trans s4), ?_⟩
    · rw [List.length_map, List.length_take]
      exact line600 (by omega)
    · rw [upd_same, List.take_add_one, hx, List.map_append]
      rfl
  · obtain ⟨s, hD⟩ := p
    rw [List.take_length] at hD
    exact hq D H nD s hD
end
/-- ints by a function, as values -/
theorem tab_vals (f : Int → Int) (n : Nat) : (List.range n).map (fun i : Nat => V.int (f (i : Int))) = (tabF f n).map V.int := by
  unfold tabF
  rw [List.map_map]
  rfl
theorem bools_all {n : Nat} {b : Nat → Bool} (h : ∀ i, i < n → b i = true) : ((List.range n).map b).all id = true := by
  rw [List.all_eq_true]
  intro x hx
  obtain ⟨i, hi, e⟩ := List.mem_map.mp hx
  rw [← e]
  exact h i (List.mem_range.mp hi)
theorem map_const_all {α β : Type} (c : β) : ∀ l : List α, (l.map fun _ => c) = List.replicate l.length c
  | [] => rfl
  | _ :: l => by
    show c :: (l.map fun _ => c) = List.replicate (l.length + 1) c
    rw [map_const_all c l]
    rfl
theorem rep_bools (n : Nat) : (List.replicate n (V.bl true) : List V) = (List.replicate n true).map V.bl := by rw [List.map_replicate]
theorem rep_all (n : Nat) : (List.replicate n true).all id = true := by
  rw [List.all_eq_true]
  intro x hx
  exact (List.mem_replicate.mp hx).2
theorem bools_map (n : Nat) (b : Nat → Bool) : (List.range n).map (fun i => V.bl (b i)) = ((List.range n).map b).map V.bl := by
  rw [List.map_map]
  rfl
end K13
set_option Elab.async false
set_option linter.all false
set_option maxRecDepth 100000
set_option maxHeartbeats 4000000
namespace K13
open PySem PySem.Spec PyProof.Rows L2
section
variable {P : Program} {w : World} {K : PySem.W.Frag} {mg : Str → Option Value} {base : Heap} {C B L fB : Addr}
/-! ### is_integer, is_list, is_day -/
def spInt1 : Sp := fun vs H Q _ => ∃ i : Int, vs = [.int i] ∧ Q (.bl true) H
theorem ok_isInteger (T : Txt K mg C B L fB) : OkN P w K mg base "is_integer" CX0 1 ["value"] spInt1 := by
  refine T.d_isInteger.ok fun f fd F => F.ok c_isInteger (fun vs H Q E h => ?_) (fun cdv A outer s H vs Q E hr h => ?_)
  · obtain ⟨i, rfl, _⟩ := h
    rfl
  · obtain ⟨i, rfl, q⟩ := h
    refine ⟨_, pss_one (ps_ret (pe_and (pe_callB call_isi (by rfl) T.g_isinstance (by decide +kernel) (pa_cons (pv 0) (pa_cons (pe_bltn (v := .ty "int") (by rfl) T.g_int (by decide +kernel) rfl) pa_nil)))
      (pe_one (pe_not (pe_callB call_isi (by rfl) T.g_isinstance (by decide +kernel) (pa_cons (pv 0) (pa_cons (pe_bltn (v := .ty "bool") (by rfl) T.g_bool (by decide +kernel) rfl) pa_nil))))))), ?_⟩
    refine ⟨_, rfl, _, _, _, _, true, rfl, .ty "int", .base (.int i), kit_ty (by decide +kernel), true, rfl, iteT ?_⟩
    refine ⟨_, rfl, _, _, _, _, false, rfl, .ty "bool", .base (.int i), kit_ty (by decide +kernel), false, rfl, q⟩
def spList1 : Sp := fun vs H Q _ => ∃ (a : Addr) (xs : List V), vs = [.ref a] ∧ H a = some (.lst xs) ∧ ∀ H', Same H H' → Q (.bl true) H'
theorem ok_isList (T : Txt K mg C B L fB) : OkN P w K mg base "is_list" CX0 1 ["value"] spList1 := by
  refine T.d_isList.ok fun f fd F => F.ok c_isList (fun vs H Q E h => ?_) (fun cdv A outer s H vs Q E hr h => ?_)
  · obtain ⟨a, xs, rfl, _⟩ := h
    rfl
  · obtain ⟨a, xs, rfl, ha, q⟩ := h
    refine ⟨_, pss_one (ps_ret (pe_callB call_isiT (by rfl) T.g_isinstance (by decide +kernel) (pa_cons (pv 0) (pa_cons (pe_tup (pa_cons (pe_bltn (v := .ty "list") (by rfl) T.g_list (by decide +kernel) rfl) (pa_cons (pe_bltn (v := .ty "tuple") (by rfl) T.g_tuple (by decide +kernel) rfl) pa_nil))) pa_nil)))), ?_⟩
    refine ⟨_, rfl, (by show 2 ≤ sizeLine; decide), fun t ht => ?_⟩
    have s1 := same_new (o := .tup [.ty "list", .ty "tuple"]) ht
    exact ⟨_, t, _, _, _, true, rfl, upd_same, .cons (.ty "list") (.cons (.ty "tuple") .nil), .base (.lst (s1 _ _ ha)), kitAny_cons (b := true) (kit_ty (by decide +kernel)) (fun z => nomatch z) (fun _ => rfl), q _ s1⟩
theorem ok_isDay (T : Txt K mg C B L fB) : OkN P w K mg base "is_day" CX0 2 ["value"] spInt1 := by
  refine T.d_isDay.ok fun f fd F => F.ok c_isDay (fun vs H Q E h => ?_) (fun cdv A outer s H vs Q E hr h => ?_)
  · obtain ⟨i, rfl, _⟩ := h
    rfl
  · obtain ⟨i, rfl, q⟩ := h
    refine ⟨_, pss_one (ps_ret (pe_cn (ok_isInteger T) hr pass0 (pa_cons (pv 0) pa_nil))), ?_⟩
    exact ⟨_, rfl, i, rfl, q⟩
/-! ### want_at_most -/
def spWant (B : Addr) : Sp := fun vs H Q E => ∃ (t : Str) (l n : Int), vs = [.str t, .int l, .int n] ∧ (n ≤ l → Q .non H) ∧ (l < n → ∀ d, H d = none → E (.ref B) (some d) (upd H d (.xd (tooF (.str t) (.int l)))))
theorem ok_wantMost (T : Txt K mg C B L fB) : OkN P w K mg base "want_at_most" (L2.CX P w) 2 ["what", "limit", "number"] (spWant B) := by
  refine T.d_wantMost.ok fun f fd F => F.okX c_wantMost (fun vs H Q E h => ?_) (fun cdv A outer s H vs Q E hr h => ?_)
  · obtain ⟨t, l, n, rfl, _⟩ := h
    rfl
  · obtain ⟨t, l, n, rfl, q1, q2⟩ := h
    refine ⟨_, pss_one (ps_if (pt_cmpR op_gt (pv 2) (pv 1) (nomark _)) (pss_one (ps_raiseToo rfl T.too hr (takes_of rfl rfl rfl rfl) (pa_cons (pv 0) (pa_cons (pv 1) pa_nil)))) pss_nil), ?_⟩
    refine ⟨_, rfl, _, rfl, _, _, rfl, rfl, _, rfl, ite2 (fun c => ?_) (fun c => ?_)⟩
    · exact ⟨_, rfl, _, rfl, _, _, rfl, q2 (of_decide_eq_true c)⟩
    · exact q1 (not_le_of c)
/-! ### floor_part -/
def spFloor : Sp := fun vs H Q _ => ∃ (d : Int) (n : Nat), vs = [.int d, .int (n : Int)] ∧ 1 ≤ n ∧ n ≤ 1000 ∧ d.natAbs ≤ 2 ^ 60 ∧ Q (.int (d / (n : Int) * (n : Int))) H
theorem div_small {d : Int} {n : Nat} (h : d.natAbs ≤ 2 ^ 60) : -(2 ^ 64) < d / (n : Int) ∧ d / (n : Int) < 2 ^ 64 := by
  have h1 := Int.natAbs_ediv_le_natAbs d (n : Int)
  omega
theorem ok_floorPart (T : Txt K mg C B L fB) : OkN P w K mg base "floor_part" CX0 1 ["day", "length"] spFloor := by
  refine T.d_floorPart.ok fun f fd F => F.ok c_floorPart (fun vs H Q E h => ?_) (fun cdv A outer s H vs Q E hr h => ?_)
  · obtain ⟨d, n, rfl, _⟩ := h
    rfl
  · obtain ⟨d, n, rfl, h1, h2, h3, q⟩ := h
    refine ⟨_, pss_one (ps_ret (pe_op op_mul (pe_op op_fdiv (pv 0) (pv 1)) (pv 1))), ?_⟩
    exact ⟨_, rfl, _, rfl, _, _, rfl, rfl, ⟨by omega, by omega⟩, _, rfl, _, _, rfl, rfl, .inl (div_small h3), q⟩
end
end K13
set_option Elab.async false
set_option linter.all false
set_option maxRecDepth 100000
set_option maxHeartbeats 4000000
namespace K13
open PySem PySem.Spec PyProof.Rows L2
section
variable {P : Program} {w : World} {K : PySem.W.Frag} {mg : Str → Option Value} {base : Heap} {C B L fB : Addr}
theorem ixl {X : Cx} {K : PySem.W.Frag} (h : X.K = K := by rfl) : IxR X (rIxL K) := by
  subst h
  exact ix_list
/-! ### is_table -/
def spIsTable : Sp := fun vs H Q _ => ∃ (a : Addr) (ds : List Int), vs = [.ref a] ∧ H a = some (iL ds) ∧ Tab ds ∧ ∀ H', Same H H' → Q (.bl true) H'
theorem ok_isTable (T : Txt K mg C B L fB) : OkN P w K mg base "is_table" CX0 3 ["value"] spIsTable := by
  obtain ⟨tM, hM⟩ := T.gM
  refine T.d_isTable.ok fun f fd F => F.ok c_isTable (fun vs H Q E h => ?_) (fun cdv A outer s H vs Q E hr h => ?_)
  · obtain ⟨a, ds, rfl, _⟩ := h
    rfl
  · obtain ⟨a, ds, rfl, ha, TD, q⟩ := h
    have hr1 : Room 1 _ := hr.mono (by decide)
    have nd := c_isTable.nd
    have l1 := TD.pos
    have l2 := TD.most
    refine ⟨_, pss_cons (ps_if (PW.pt (pw_or (pt_not (pt_val (pe_cn (ok_isList T) hr1 pass0 (pa_cons (pv 0) pa_nil)))) (pw_or1 (pt_not (pt_chain op_le op_le pe_int (pe_callB call_len_seq (by rfl) T.g_len PySem.boot_len (pa_cons (pv 0) pa_nil)) (pe_glob (v := .int 600) rfl hM ⟨tM, rfl⟩)))))) (pss_one (ps_ret pe_bl)) pss_nil)
      (pss_cons (ps_if (pt_not (pt_val (pe_callB (cr_all rfl) (by rfl) T.g_all (by decide +kernel) (pa_cons (pe_lg (own := [("day", 1)]) (g := gName 1) (tt := tYes) rfl nd (pi_list (pv 0)) (blkOk_by (N := ["value", "day", "place"]) (sc := defScope s_isTable) (by decide +kernel)) (fun _ _ _ _ _ => pg_name (i := 1) nd rfl (Or.inl rfl)) (fun _ _ _ _ _ => pts_nil)
          (fun _ _ _ _ _ => pe_cn (ok_isDay T) hr pass0 (pa_cons (pv 1) pa_nil))) pa_nil)))) (pss_one (ps_ret pe_bl)) pss_nil)
      (pss_cons (ps_if (pt_not (pt_val (pe_callB (cr_all rfl) (by rfl) T.g_all (by decide +kernel) (pa_cons (pe_lg (own := [("place", 2)]) (g := gName 2) (tt := tYes) rfl nd (pi_range1 rfl T.g_range (pa_cons (pe_op op_sub (pe_callB call_len_seq (by rfl) T.g_len PySem.boot_len (pa_cons (pv 0) pa_nil)) pe_int) pa_nil)) (blkOk_by (N := ["value", "day", "place"]) (sc := defScope s_isTable) (by decide +kernel)) (fun _ _ _ _ _ => pg_name (i := 2) nd rfl (Or.inl rfl)) (fun _ _ _ _ _ => pts_nil)
          (fun _ _ _ _ _ => pe_cmpR op_le (pe_ix (ixl (K := K)) (pv 0) (pv 2) (fun _ _ => rfl)) (pe_ix (ixl (K := K)) (pv 0) (pe_op op_add (pv 2) pe_int) (fun _ _ => rfl)) (nomark _))) pa_nil)))) (pss_one (ps_ret pe_bl)) pss_nil)
      (pss_one (ps_ret (pe_cmpR op_le (pe_ix ix_list (pv 0) (pe_un un_neg pe_int) (fun _ _ => rfl)) (pe_op op_add (pe_ix ix_list (pv 0) pe_int (fun _ _ => rfl)) (pe_callB call_len_seq (by rfl) T.g_len PySem.boot_len (pa_cons (pv 0) pa_nil))) (nomark _)))))), ?_⟩
    -- is_list(value), 1 <= len(value) <= MOST
    refine ⟨_, rfl, a, _, rfl, ha, fun H1 s1 => ⟨true, rfl, ?_⟩⟩
    refine iteF ⟨_, rfl, a, _, rfl, .inl (iL_seq (s1 _ _ ha)), _, _, rfl, rfl, _, rfl, iteD (by rw [iL_len]; omega) ?_⟩
    refine ⟨_, _, rfl, rfl, _, rfl, iteND (by rw [iL_len]; omega) ?_⟩
    -- all([is_day(day) for day in value])
    refine ⟨_, rfl, a, rfl, ⟨_, iL_seq (s1 _ _ ha)⟩, lcL (K := K) (a := a) (xs := ds.map V.int) (fun _ => V.bl true) (iL_seq (s1 _ _ ha)) (by rw [iL_len]; omega) (fun _ => rfl) (fun i x hx H2 R s2 k => ?_) (fun D H2 nD s2 hD => ?_)⟩
    · obtain ⟨rfl, _⟩ := iL_get hx
      exact ⟨_, rfl, _, rfl, k _ (Same.refl _)⟩
    refine ⟨D, List.replicate ds.length true, rfl, SqL.of (by rw [hD, map_const_all, iL_len, rep_bools]), _, rfl, iteBf (by rw [rep_all]; rfl) ?_⟩
    -- all([value[place] <= value[place + 1] for place in range(len(value) - 1)])
    have s12 := s1.trans s2
    refine ⟨_, rfl, a, _, rfl, .inl (iL_seq (s12 _ _ ha)), _, _, rfl, rfl, _, rfl, by rw [iL_len]; omega, by rw [iL_len]; omega, lcR (fun _ => V.bl true) (by rw [iL_len]; omega) (fun _ => rfl) (fun i hi H3 R s3 k => ?_) (fun D3 H3 nD3 s3 hD3 => ?_)⟩
    · rw [iL_len] at hi
      have ha3 := s3 _ _ (s12 _ _ ha)
      refine ⟨_, rfl, _, rfl, a, _, _, _, rfl, rfl, iL_seq ha3, at_of (j := i) (by omega) (iL_at (by omega)), _, rfl, _, rfl, _, _, rfl, rfl, a, _, _, _, rfl, rfl, iL_seq ha3, at_of (j := i + 1) (by omega) (iL_at (by omega)), _, _, rfl, rfl, ?_⟩
      exact q_of (vb_true (TD.mono i (by omega))) (k _ (Same.refl _))
    have s13 := s12.trans s3
    refine ⟨D3, List.replicate _ true, rfl, SqL.of (by rw [hD3, map_const_all, List.length_range, rep_bools]), _, rfl, iteBf (by rw [rep_all]; rfl) ?_⟩
    -- value[-1] <= value[0] + len(value)
    have ha3 := s13 _ _ ha
    refine ⟨_, rfl, _, rfl, a, _, _, _, rfl, rfl, iL_seq ha3, at_end rfl (by rw [iL_len]; omega) (by rw [iL_len]; exact iL_at (show ds.length - 1 < ds.length by omega)), _, rfl, a, _, _, _, rfl, rfl, iL_seq ha3, at_of (j := 0) rfl (iL_at (by omega)), _, rfl, a, _, rfl, .inl (iL_seq ha3), _, _, rfl, rfl, _, _, rfl, rfl, ?_⟩
    exact q_of (vb_true (by rw [iL_len]; exact TD.top)) (q _ s13)
end
end K13
set_option Elab.async false
set_option linter.all false
set_option maxRecDepth 100000
set_option maxHeartbeats 4000000
namespace K13
open PySem PySem.Spec PyProof.Rows L2
section
variable {P : Program} {w : World} {K : PySem.W.Frag} {mg : Str → Option Value} {base : Heap} {C B L fB : Addr}
/-! ### Table.__init__ -/
def spInit (C : Addr) : Sp := fun vs H Q _ => ∃ (p dx a : Addr) (ds : List Int), vs = [.ref p, .ref a] ∧ H p = some (.ins C dx []) ∧ H a = some (iL ds) ∧ Tab ds ∧
  ∀ l H', H l = none → TabA C H' p l ds → (∀ b o, H b = some o → b ≠ p → H' b = some o) → Q .non H'
theorem ok_init (T : Txt K mg C B L fB) : OkI P w K mg base C CX0 4 ["self", "days"] (spInit C) := by
  refine T.m_Init.ok fun f fd F => F.ok c_TInit (fun vs H Q E h => ?_) (fun cdv A outer s H vs Q E hr h => ?_)
  · obtain ⟨p, dx, a, ds, rfl, _⟩ := h
    rfl
  · obtain ⟨p, dx, a, ds, rfl, hp, ha, TD, k⟩ := h
    refine ⟨_, pss_cons (ps_if (pt_not (pt_val (pe_cn (ok_isTable T) hr pass0 (pa_cons (pv 1) pa_nil)))) (pss_one ps_never) pss_nil)
      (pss_cons (ps_fld (pv 0) (pe_callTy call_list_of (by rfl) T.g_list (by decide +kernel) (pa_cons (pv 1) pa_nil)) rfl)
      (pss_one (ps_fld (pv 0) (pe_callB call_len_seq (by rfl) T.g_len PySem.boot_len (pa_cons (pe_fld (pv 0) rfl) pa_nil)) rfl))), ?_⟩
    refine ⟨_, rfl, a, ds, rfl, ha, TD, fun H1 s1 => ⟨true, rfl, iteF ?_⟩⟩
    have hp1 := s1 _ _ hp
    have ha1 := s1 _ _ ha
    -- self.own_days = list(days)
    refine ⟨_, rfl, a, _, rfl, .inl (iL_seq ha1), fun l hl => ?_⟩
    have s2 := same_new (o := iL ds) hl
    have npl : p ≠ l := ne_of_none hp1 hl
    refine ⟨_, rfl, p, C, dx, [], rfl, s2 _ _ hp1, T.cl, T.nDays, (by show 0 < 1000; decide), ?_⟩
    -- self.own_length = len(self.own_days)
    refine ⟨_, rfl, p, C, dx, _, _, rfl, upd_same, T.cl, T.nDays, (by rw [lookup_putF, if_pos rfl]), l, _, rfl, .inl (iL_seq (ds := ds) (by rw [upd_ne npl.symm]; exact upd_same)), ?_⟩
    refine ⟨_, rfl, p, C, dx, _, rfl, upd_same, T.cl, T.nLen, (by show 1 < 1000; decide), ?_⟩
    refine k l _ (s1.free hl) ⟨⟨dx, ?_⟩, ?_⟩ fun b o e hb => ?_
    · rw [upd_same]
      show some (HO.ins C dx (putF "own_length" (V.int ((ds.map V.int).length : Nat)) (putF "own_days" (V.ref l) []))) = _
      rw [iL_len]
      rfl
    · rw [upd_ne npl.symm, upd_ne npl.symm]
      exact upd_same
    · rw [upd_ne hb, upd_ne hb]
      exact s2 _ _ (s1 _ _ e)
/-- Table(days), read -/
theorem mk_read {C : Addr} {H : Hp} {a : Addr} {ds : List Int} {Q : VK} {E : XK} (ha : H a = some (iL ds)) (TD : Tab ds) (k : ∀ p l H', H p = none → H l = none → Same H H' → TabA C H' p l ds → Q (.ref p) H') :
    ∀ x dx, H x = none → H dx = none → dx ≠ x → spInit C (.ref x :: ([.ref a] ++ [])) (upd (upd H dx (.own x)) x (.ins C dx [])) (fun v H2 => v = .non ∧ Q (.ref x) H2) E := by
  intro x dx nx ndx nex
  have s0 : Same H (upd (upd H dx (.own x)) x (.ins C dx [])) := fun b o e => by
    rw [upd_ne (ne_of_none e nx), upd_ne (ne_of_none e ndx)]
    exact e
  exact ⟨x, dx, a, ds, rfl, upd_same, s0 _ _ ha, TD, fun l H' nl TA kp => ⟨rfl, k x l H' nx (s0.free nl) (Same.made nx ndx kp) TA⟩⟩
/-! ### length, days, served -/
def spLength (C : Addr) : Sp := fun vs H Q _ => ∃ (p : Addr) (ds : List Int), vs = [.ref p] ∧ TabAt C H p ds ∧ Q (.int (ds.length : Int)) H
theorem ok_length (T : Txt K mg C B L fB) : OkP P w K mg base C "length" CX0 1 ["self"] (spLength C) := by
  refine T.m_Length.ok fun f fd F => F.ok c_TLength (fun vs H Q E h => ?_) (fun cdv A outer s H vs Q E hr h => ?_)
  · obtain ⟨p, ds, rfl, _⟩ := h
    rfl
  · obtain ⟨p, ds, rfl, ⟨l, ⟨dx, hp⟩, hl⟩, q⟩ := h
    refine ⟨_, pss_one (ps_ret (pe_fld (pv 0) rfl)), ?_⟩
    exact ⟨_, rfl, p, C, dx, _, _, rfl, hp, T.cl, T.nLen, tf_len _ _, q⟩
def spDays (C : Addr) : Sp := fun vs H Q _ => ∃ (p : Addr) (ds : List Int), vs = [.ref p] ∧ TabAt C H p ds ∧ ∀ l H', H l = none → Same H H' → H' l = some (iL ds) → Q (.ref l) H'
theorem ok_days (T : Txt K mg C B L fB) : OkM P w K mg base C "days" CX0 1 ["self"] (spDays C) := by
  refine T.m_Days.ok fun f fd F => F.ok c_TDays (fun vs H Q E h => ?_) (fun cdv A outer s H vs Q E hr h => ?_)
  · obtain ⟨p, ds, rfl, _⟩ := h
    rfl
  · obtain ⟨p, ds, rfl, ⟨l, ⟨dx, hp⟩, hl⟩, q⟩ := h
    refine ⟨_, pss_one (ps_ret (pe_callTy call_list_of (by rfl) T.g_list (by decide +kernel) (pa_cons (pe_fld (pv 0) rfl) pa_nil))), ?_⟩
    exact ⟨_, rfl, p, C, dx, _, _, rfl, hp, T.cl, T.nDays, tf_days _ _, l, _, rfl, .inl (iL_seq hl), fun l2 nl => q l2 _ nl (same_new nl) upd_same⟩
def spServed (C : Addr) : Sp := fun vs H Q _ => ∃ (p : Addr) (ds : List Int) (d : Int), vs = [.ref p, .int d] ∧ TabAt C H p ds ∧ Tab ds ∧ d.natAbs ≤ 2 ^ 60 ∧ Q (.int (On ds d)) H
theorem ok_served (T : Txt K mg C B L fB) : OkM P w K mg base C "served" CX0 2 ["self", "day"] (spServed C) := by
  refine T.m_Served.ok fun f fd F => F.ok c_TServed (fun vs H Q E h => ?_) (fun cdv A outer s H vs Q E hr h => ?_)
  · obtain ⟨p, ds, d, rfl, _⟩ := h
    rfl
  · obtain ⟨p, ds, d, rfl, ⟨l, ⟨dx, hp⟩, hl⟩, TD, hd, q⟩ := h
    have nd := c_TServed.nd
    have l1 := TD.pos
    have l2 := TD.most
    refine ⟨_, pss_cons (ps_set (i := 2) nd rfl (Or.inl rfl) (pe_cn (ok_floorPart T) hr pass0 (pa_cons (pv 1) (pa_cons (pe_fld (pv 0) rfl) pa_nil))))
      (pss_one (ps_ret (pe_op op_add (pe_ix ix_list (pe_fld (pv 0) rfl) (pe_op op_sub (pv 1) (pv 2)) (fun _ _ => rfl)) (pv 2)))), ?_⟩
    refine ⟨_, rfl, _, rfl, p, C, dx, _, _, rfl, hp, T.cl, T.nLen, tf_len _ _, d, ds.length, rfl, l1, by omega, hd, ?_⟩
    obtain ⟨h1, h2, h3⟩ := split_of (x := d) (L := (ds.length : Int)) (by omega)
    refine ⟨_, rfl, p, C, dx, _, _, rfl, hp, T.cl, T.nDays, tf_days _ _, _, rfl, _, rfl, _, _, rfl, rfl, l, _, _, _, rfl, rfl, iL_seq hl, at_of (j := (d % (ds.length : Int)).toNat) (by omega) (iL_at (by omega)), _, rfl, _, _, rfl, rfl, q⟩
end
end K13
set_option Elab.async false
set_option linter.all false
set_option maxRecDepth 100000
set_option maxHeartbeats 4000000
namespace K13
open PySem PySem.Spec PyProof.Rows L2
structure OkT (M : Int) (ds : List Int) : Prop where
  tab : Tab ds
  rule : Rule M ds.length (On ds)
  small : M ≤ 1000000
theorem OkT.pos {M : Int} {ds : List Int} (h : OkT M ds) : 0 ≤ M := by
  have := h.rule.lead 0
  omega
theorem on_zero {ds : List Int} (h : 1 ≤ ds.length) : ds.getD 0 0 = On ds 0 := (on_nat (ds := ds) (r := 0) (by omega)).symm
theorem OkT.first {M : Int} {ds : List Int} (h : OkT M ds) : -1000000 ≤ ds.getD 0 0 ∧ ds.getD 0 0 ≤ 1000000 := by
  rw [on_zero h.tab.pos]
  have := h.rule.lead 0
  have := h.small
  omega
theorem by_near {M : Int} {ds : List Int} (h : OkT M ds) (y : Int) : y - 1000000 ≤ By (On ds) y ∧ By (On ds) y ≤ y + 1000000 := by
  have := h.rule.byR.lead y
  have := h.small
  omega
theorem on_near {M : Int} {ds : List Int} (h : OkT M ds) (y : Int) : y - 1000000 ≤ On ds y ∧ On ds y ≤ y + 1000000 := by
  have := h.rule.lead y
  have := h.small
  omega
section
variable {P : Program} {w : World} {K : PySem.W.Frag} {mg : Str → Option Value} {base : Heap} {C B L fB : Addr}
/-! ### first_by -/
def spFirstBy (C : Addr) : Sp := fun vs H Q _ => ∃ (p : Addr) (ds : List Int) (d M : Int), vs = [.ref p, .int d] ∧ TabAt C H p ds ∧ OkT M ds ∧ d.natAbs ≤ 2 ^ 40 ∧ Q (.int (By (On ds) d)) H
theorem ok_firstBy (T : Txt K mg C B L fB) : OkM P w K mg base C "first_by" CX0 3 ["self", "day"] (spFirstBy C) := by
  refine T.m_FirstBy.ok fun f fd F => F.ok c_TFirstBy (fun vs H Q E h => ?_) (fun cdv A outer s H vs Q E hr h => ?_)
  · obtain ⟨p, ds, d, M, rfl, _⟩ := h
    rfl
  · obtain ⟨p, ds, d, M, rfl, TA, OT, hd, q⟩ := h
    obtain ⟨l, ⟨dx, hp⟩, hl⟩ := id TA
    have nd := c_TFirstBy.nd
    have hr1 : Room 1 _ := hr.mono (by decide)
    have TD := OT.tab
    have l1 := TD.pos
    have l2 := TD.most
    have hb := OT.first
    refine ⟨_, pss_cons (ps_set (i := 2) nd rfl (Or.inl rfl) (pe_cn (ok_floorPart T) hr1 pass0 (pa_cons (pe_op op_sub (pv 1) (pe_ix ix_list (pe_fld (pv 0) rfl) pe_int (fun _ _ => rfl))) (pa_cons (pe_fld (pv 0) rfl) pa_nil))))
      (pss_cons (ps_par (i := 3) (j := 4) rfl nd rfl rfl (by decide) rfl rfl (pa_cons (pe_op op_sub (pv 2) (pe_fld (pv 0) rfl)) (pa_cons (pe_op op_add (pv 2) (pe_fld (pv 0) rfl)) pa_nil)) (by rfl))
      (pss_cons (ps_while PassesOwn.never (pt_cmpR op_gt (pe_op op_sub (pv 4) (pv 3)) pe_int (nomark _))
        (pss_cons (ps_set (i := 5) nd rfl (Or.inl rfl) (pe_op op_fdiv (pe_op op_add (pv 3) (pv 4)) pe_int))
        (pss_one (ps_if (pt_cmpR op_ge (pe_mn T.cl (ok_served T) hr pass0 (pv 0) (pa_cons (pv 5) pa_nil)) (pv 1) (nomark _)) (pss_one (ps_set (i := 4) nd rfl (Or.inl rfl) (pv 5))) (pss_one (ps_set (i := 3) nd rfl (Or.inl rfl) (pv 5)))))))
      (pss_one (ps_ret (pv 4))))), ?_⟩
    -- part = floor_part(day - self.own_days[0], self.own_length)
    refine ⟨_, rfl, _, rfl, p, C, dx, _, _, rfl, hp, T.cl, T.nDays, tf_days _ _, l, _, _, _, rfl, rfl, iL_seq hl, at_of (j := 0) rfl (iL_at (by omega)), _, _, rfl, rfl, _, rfl, p, C, dx, _, _, rfl, hp, T.cl, T.nLen, tf_len _ _, _, ds.length, rfl, l1, by omega, by omega, ?_⟩
    obtain ⟨h1, h2, h3⟩ := split_of (x := d - ds.getD 0 0) (L := (ds.length : Int)) (by omega)
    generalize hpt : (d - ds.getD 0 0) / (ds.length : Int) * (ds.length : Int) = pt at *
    -- early, late = ..
    refine ⟨_, rfl, _, rfl, p, C, dx, _, _, rfl, hp, T.cl, T.nLen, tf_len _ _, _, _, rfl, rfl, _, rfl, _, rfl, p, C, dx, _, _, rfl, hp, T.cl, T.nLen, tf_len _ _, _, _, rfl, rfl, _, _, rfl, ?_⟩
    have f0 : On ds pt = ds.getD 0 0 + pt := by
      have e := (OT.rule.per.mul ((d - ds.getD 0 0) / (ds.length : Int))) 0
      rw [hpt, Int.zero_add, ← on_zero l1] at e
      exact e
    have f1 : On ds (pt - (ds.length : Int)) = ds.getD 0 0 + pt - (ds.length : Int) := by
      have e := OT.rule.per (pt - (ds.length : Int))
      rw [show pt - (ds.length : Int) + (ds.length : Int) = pt by omega] at e
      omega
    have f2 : On ds (pt + (ds.length : Int)) = ds.getD 0 0 + pt + (ds.length : Int) := by
      have e := OT.rule.per pt
      omega
    -- while late - early > 1
    refine ⟨fun m σ H1 => ∃ (e z : Int) (vm : Option V), σ = [some (.ref p), some (.int d), some (.int pt), some (.int e), some (.int z), vm] ∧ H1 = H ∧ m = (z - e).toNat ∧ On ds e < d ∧ d ≤ On ds z ∧ e.natAbs ≤ 2 ^ 50 ∧ z.natAbs ≤ 2 ^ 50,
      ⟨_, _, _, _, rfl, rfl, rfl, by omega, by omega, by omega, by omega⟩, ?_⟩
    rintro m σ H1 ⟨e, z, vm, rfl, rfl, rfl, g1, g2, g3, g4⟩
    have hez : e < z := Int.not_le.mp fun c => by
      have := OT.rule.mono z e c
      omega
    refine ⟨_, rfl, _, rfl, _, _, rfl, rfl, _, _, rfl, rfl, _, rfl, ite2 (fun c => ?_) (fun c => ?_)⟩
    · have c : 1 < z - e := of_decide_eq_true c
      refine ⟨fun σ' H' => ∃ (e' z' : Int) (vm' : Option V), σ' = [some (.ref p), some (.int d), some (.int pt), some (.int e'), some (.int z'), vm'] ∧ H' = H1 ∧ (z' - e').toNat < (z - e).toNat ∧ On ds e' < d ∧ d ≤ On ds z' ∧ e'.natAbs ≤ 2 ^ 50 ∧ z'.natAbs ≤ 2 ^ 50,
        fun σ' H' ⟨e', z', vm', a1, a2, a3, a4⟩ => ⟨_, a3, e', z', vm', a1, a2, rfl, a4⟩, ?_⟩
      have m1 : e < (e + z) / 2 := by omega
      have m2 : (e + z) / 2 < z := by omega
      refine ⟨_, rfl, _, rfl, _, _, rfl, rfl, _, _, rfl, rfl, ⟨by decide, by decide⟩, ?_⟩
      refine ⟨_, rfl, p, dx, _, rfl, hp, tf_no _ _ (by decide +kernel) (by decide +kernel), _, rfl, p, ds, _, rfl, TA, TD, by omega, _, rfl, _, _, rfl, rfl, _, rfl, ite2 (fun c2 => ?_) (fun c2 => ?_)⟩
      · have c2 := of_decide_eq_true c2
        exact ⟨_, rfl, e, _, _, rfl, rfl, by omega, g1, c2, g3, by omega⟩
      · have c2 : On ds ((e + z) / 2) < d := by simpa using c2
        exact ⟨_, rfl, _, z, _, rfl, rfl, by omega, c2, g2, by omega, g4⟩
    · have c : z - e ≤ 1 := by simpa using c
      have ez : z - 1 = e := by omega
      exact ⟨_, rfl, q_of (by rw [OT.rule.by_eq (isBy_of OT.rule.mono g2 (by rw [ez]; exact g1))]) q⟩
end
end K13
set_option Elab.async false
set_option linter.all false
set_option maxRecDepth 100000
set_option maxHeartbeats 4000000
/-! Data as one value: lists of ints, and what repr and == ask of them. -/
namespace K13
open PySem PySem.Spec PyProof.Rows L2
def dI (ds : List Int) : PyData := .list (ds.map PyData.int)
theorem dpAll_ints (K : PySem.W.Frag) (H : Hp) : ∀ ds : List Int, DpAll K H (ds.map V.int) (ds.map PyData.int)
  | [] => .nil
  | d :: ds => .cons (.int d) (dpAll_ints K H ds)
theorem dp_ints {K : PySem.W.Frag} {H : Hp} {a : Addr} {ds : List Int} (h : H a = some (iL ds)) : Dp K H (.ref a) (dI ds) := .lst (iL_seq h) (dpAll_ints K H ds)
theorem canLay_ints : ∀ ds : List Int, PyData.canLayAll0 (ds.map PyData.int) = true
  | [] => by simp only [List.map_nil, PyData.canLayAll0]
  | d :: ds => by simp only [List.map_cons, PyData.canLayAll0, PyData.canLay0, canLay_ints ds, Bool.true_and]
theorem depth_ints : ∀ ds : List Int, PyData.depthAll (ds.map PyData.int) = 0
  | [] => by simp only [List.map_nil, PyData.depthAll]
  | d :: ds => by simp only [List.map_cons, PyData.depthAll, PyData.depth, depth_ints ds, Nat.max_self]
theorem shaped_dI (ds : List Int) : SeqAt.shaped (dI ds) = true := by
  unfold SeqAt.shaped dI
  simp only [PyData.canLay0, canLay_ints ds, PyData.depth, depth_ints ds, Bool.true_and]
  decide
theorem eqv_ints : ∀ as bs : List Int, PyData.eqvAll (as.map PyData.int) (bs.map PyData.int) = decide (as = bs)
  | [], [] => by simp only [List.map_nil, PyData.eqvAll]; decide
  | [], b :: bs => by simp only [List.map_nil, List.map_cons, PyData.eqvAll]; exact (decide_eq_false (fun e => nomatch e)).symm
  | a :: as, [] => by simp only [List.map_nil, List.map_cons, PyData.eqvAll]; exact (decide_eq_false (fun e => nomatch e)).symm
  | a :: as, b :: bs => by
    simp only [List.map_cons, PyData.eqvAll, PyData.eqv, eqv_ints as bs, List.cons.injEq]
    by_cases h1 : a = b <;> by_cases h2 : as = bs <;> simp [h1, h2]
theorem eqv_dI (as bs : List Int) : PyData.eqv (dI as) (dI bs) = decide (as = bs) := by
  unfold dI
  simp only [PyData.eqv, eqv_ints]
theorem showable_ints : ∀ ds : List Int, (∀ d ∈ ds, d.natAbs < 10 ^ 12) → PyData.showableAll (ds.map PyData.int) = true
  | [], _ => by simp only [List.map_nil, PyData.showableAll]
  | d :: ds, h => by
    have h1 : d.natAbs.log2 < 1920 := by
      have h2 : d.natAbs < 2 ^ 64 := Nat.lt_of_lt_of_le (h d List.mem_cons_self) (by decide)
      have h3 : d.natAbs.log2 ≤ 63 := PySem.W.mg_log (k := 63) h2
      omega
    simp only [List.map_cons, PyData.showableAll, PyData.showable, decide_eq_true h1, showable_ints ds fun e he => h e (List.mem_cons_of_mem _ he), Bool.true_and]
theorem nodict_ints : ∀ ds : List Int, PyData.hasDictAll (ds.map PyData.int) = false
  | [] => by simp only [List.map_nil, PyData.hasDictAll]
  | d :: ds => by simp only [List.map_cons, PyData.hasDictAll, PyData.hasDict, nodict_ints ds, Bool.or_self]
theorem short_ints : ∀ ds : List Int, (∀ d ∈ ds, d.natAbs < 10 ^ 12) → PyData.leavesShortAll 13 (ds.map PyData.int) = true
  | [], _ => by simp only [List.map_nil, PyData.leavesShortAll]
  | d :: ds, h => by
    have h1 := PyData.shown_int_le (h d List.mem_cons_self)
    simp only [List.map_cons, PyData.leavesShortAll, PyData.leavesShort, decide_eq_true h1, short_ints ds fun e he => h e (List.mem_cons_of_mem _ he), Bool.true_and]
theorem weight_int {d : Int} (h : d.natAbs < 10 ^ 12) : PyData.weight (.int d) ≤ 63 := by
  have h2 : d.natAbs < 2 ^ 62 := Nat.lt_of_lt_of_le h (by decide)
  have h3 : d.natAbs.log2 ≤ 61 := PySem.W.mg_log (k := 61) h2
  simp only [PyData.weight]
  split <;> omega
theorem weight_ints : ∀ ds : List Int, (∀ d ∈ ds, d.natAbs < 10 ^ 12) → PyData.weightAll (ds.map PyData.int) ≤ 64 * ds.length
  | [], _ => by simp only [List.map_nil, PyData.weightAll]; exact Nat.zero_le _
  | d :: ds, hd => by
    have h := weight_ints ds fun e he => hd e (List.mem_cons_of_mem _ he)
    have h1 := weight_int (hd d List.mem_cons_self)
    simp only [List.map_cons, PyData.weightAll, List.length_cons]
    omega
end K13
set_option Elab.async false
set_option linter.all false
set_option maxRecDepth 100000
set_option maxHeartbeats 4000000
namespace K13
open PySem PySem.Spec PyProof.Rows L2
/-- a new Table at p -/
structure NewTab (C : Addr) (H H' : Hp) (p : Addr) (ds : List Int) : Prop where
  np : H p = none
  same : Same H H'
  tab : ∃ l, H l = none ∧ TabA C H' p l ds
theorem NewTab.at {C : Addr} {H H' : Hp} {p : Addr} {ds : List Int} (n : NewTab C H H' p ds) : TabAt C H' p ds := by
  obtain ⟨_, _, l, _, t⟩ := n
  exact ⟨l, t⟩
theorem NewTab.from {C : Addr} {H0 H H' : Hp} {p : Addr} {ds : List Int} (s : Same H0 H) (n : NewTab C H H' p ds) : NewTab C H0 H' p ds := by
  obtain ⟨a, b, l, c, t⟩ := n
  exact ⟨s.free a, s.trans b, l, s.free c, t⟩
theorem mk_tab {C : Addr} {H : Hp} {a : Addr} {ds : List Int} {Q : VK} {E : XK} (ha : H a = some (iL ds)) (TD : Tab ds) (k : ∀ p H', NewTab C H H' p ds → Q (.ref p) H') :
    ∀ x dx, H x = none → H dx = none → dx ≠ x → spInit C (.ref x :: ([.ref a] ++ [])) (upd (upd H dx (.own x)) x (.ins C dx [])) (fun v H2 => v = .non ∧ Q (.ref x) H2) E :=
  mk_read ha TD fun p l H' np nl s t => k p H' ⟨np, s, l, nl, t⟩
theorem cut_take {xs : List V} {m : Nat} (h : m ≤ xs.length) : cutV xs none (some (m : Int)) = xs.take m := by
  unfold cutV
  rw [HT.sIx_none, HT.sIx_nat, Nat.min_eq_left h, Nat.sub_zero]
  rfl
section
variable {P : Program} {w : World} {K : PySem.W.Frag} {mg : Str → Option Value} {base : Heap} {C B L fB : Addr}
/-! ### by_table, til_table -/
def spByT (C : Addr) : Sp := fun vs H Q _ => ∃ (p : Addr) (ds : List Int) (M : Int), vs = [.ref p] ∧ TabAt C H p ds ∧ OkT M ds ∧ ∀ p' H', NewTab C H H' p' (tabF (By (On ds)) ds.length) → Q (.ref p') H'
theorem ok_byTable (T : Txt K mg C B L fB) : OkM P w K mg base C "by_table" CX0 6 ["self"] (spByT C) := by
  refine T.m_ByTable.ok fun f fd F => F.ok c_TByTable (fun vs H Q E h => ?_) (fun cdv A outer s H vs Q E hr h => ?_)
  · obtain ⟨p, ds, M, rfl, _⟩ := h
    rfl
  · obtain ⟨p, ds, M, rfl, TA, OT, q⟩ := h
    obtain ⟨l, ⟨dx, hp⟩, hl⟩ := id TA
    have nd := c_TByTable.nd
    have l1 := OT.tab.pos
    have l2 := OT.tab.most
    refine ⟨_, pss_one (ps_ret (pe_mk (ok_init T) hr T.gT pass0 (pa_cons (pe_lg (own := [("day", 1)]) (g := gName 1) (tt := tYes) rfl nd (pi_range1 rfl T.g_range (pa_cons (pe_fld (pv 0) rfl) pa_nil)) (blkOk_by (N := ["self", "day"]) (sc := defScope s_TByTable) (by decide +kernel)) (fun _ _ _ _ _ => pg_name (i := 1) nd rfl (Or.inl rfl)) (fun _ _ _ _ _ => pts_nil)
      (fun _ _ _ _ _ => pe_mn T.cl (ok_firstBy T) (hr.mono (by decide)) pass0 (pv 0) (pa_cons (pv 1) pa_nil))) pa_nil))), ?_⟩
    refine ⟨_, rfl, p, C, dx, _, _, rfl, hp, T.cl, T.nLen, tf_len _ _, _, rfl, by omega, by omega, lcR (fun i => V.int (By (On ds) (i : Int))) (by omega) (fun _ => rfl) (fun i hi H3 R s3 k => ?_) (fun D H3 nD s3 hD => ?_)⟩
    · have e : (0 : Int) + (i : Int) = (i : Int) := Int.zero_add _
      exact ⟨_, rfl, p, dx, _, rfl, s3 _ _ hp, tf_no _ _ (by decide +kernel) (by decide +kernel), _, rfl, p, ds, _, M, rfl, TA.same s3, OT, by omega, q_of (by rw [e]) (k _ (Same.refl _))⟩
    · rw [tab_vals, show ((ds.length : Nat) : Int).toNat = ds.length from Int.toNat_natCast _] at hD
      exact mk_tab hD (tab_ok l1 l2 OT.rule.byR.mono OT.rule.byR.per) fun p' H' n => q p' H' (n.from s3)
def spTilT (C : Addr) : Sp := fun vs H Q _ => ∃ (p : Addr) (ds : List Int) (M : Int), vs = [.ref p] ∧ TabAt C H p ds ∧ OkT M ds ∧ ∀ p' H', NewTab C H H' p' (tabF (Til (On ds)) ds.length) → Q (.ref p') H'
theorem ok_tilTable (T : Txt K mg C B L fB) : OkM P w K mg base C "til_table" CX0 6 ["self"] (spTilT C) := by
  refine T.m_TilTable.ok fun f fd F => F.ok c_TTilTable (fun vs H Q E h => ?_) (fun cdv A outer s H vs Q E hr h => ?_)
  · obtain ⟨p, ds, M, rfl, _⟩ := h
    rfl
  · obtain ⟨p, ds, M, rfl, TA, OT, q⟩ := h
    obtain ⟨l, ⟨dx, hp⟩, hl⟩ := id TA
    have nd := c_TTilTable.nd
    have l1 := OT.tab.pos
    have l2 := OT.tab.most
    refine ⟨_, pss_one (ps_ret (pe_mk (ok_init T) hr T.gT pass0 (pa_cons (pe_lg (own := [("day", 1)]) (g := gName 1) (tt := tYes) rfl nd (pi_range1 rfl T.g_range (pa_cons (pe_fld (pv 0) rfl) pa_nil)) (blkOk_by (N := ["self", "day"]) (sc := defScope s_TTilTable) (by decide +kernel)) (fun _ _ _ _ _ => pg_name (i := 1) nd rfl (Or.inl rfl)) (fun _ _ _ _ _ => pts_nil)
      (fun _ _ _ _ _ => pe_op op_sub (pe_mn T.cl (ok_firstBy T) (hr.mono (by decide)) pass0 (pv 0) (pa_cons (pe_op op_add (pv 1) pe_int) pa_nil)) pe_int)) pa_nil))), ?_⟩
    refine ⟨_, rfl, p, C, dx, _, _, rfl, hp, T.cl, T.nLen, tf_len _ _, _, rfl, by omega, by omega, lcR (fun i => V.int (Til (On ds) (i : Int))) (by omega) (fun _ => rfl) (fun i hi H3 R s3 k => ?_) (fun D H3 nD s3 hD => ?_)⟩
    · have e : (0 : Int) + (i : Int) = (i : Int) := Int.zero_add _
      exact ⟨_, rfl, p, dx, _, rfl, s3 _ _ hp, tf_no _ _ (by decide +kernel) (by decide +kernel), _, rfl, _, _, rfl, rfl, p, ds, _, M, rfl, TA.same s3, OT, by omega, _, _, rfl, rfl, q_of (by rw [e]; rfl) (k _ (Same.refl _))⟩
    · rw [tab_vals, show ((ds.length : Nat) : Int).toNat = ds.length from Int.toNat_natCast _] at hD
      exact mk_tab hD (tab_ok l1 l2 OT.rule.tilR.mono OT.rule.tilR.per) fun p' H' n => q p' H' (n.from s3)
/-! ### repeats, shortest, is_same -/
def spRepeats (C : Addr) : Sp := fun vs H Q _ => ∃ (p : Addr) (ds : List Int) (M : Int) (m : Nat), vs = [.ref p, .int (m : Int)] ∧ TabAt C H p ds ∧ OkT M ds ∧ m ≤ 1000 ∧ ∀ r : Bool, (r = true ↔ Per (On ds) (m : Int)) → Q (.bl r) H
theorem ok_repeats (T : Txt K mg C B L fB) : OkM P w K mg base C "repeats" CX0 3 ["self", "length"] (spRepeats C) := by
  refine T.m_Repeats.ok fun f fd F => F.ok c_TRepeats (fun vs H Q E h => ?_) (fun cdv A outer s H vs Q E hr h => ?_)
  · obtain ⟨p, ds, M, m, rfl, _⟩ := h
    rfl
  · obtain ⟨p, ds, M, m, rfl, TA, OT, hm, q⟩ := h
    obtain ⟨l, ⟨dx, hp⟩, hl⟩ := id TA
    have nd := c_TRepeats.nd
    have l1 := OT.tab.pos
    have l2 := OT.tab.most
    refine ⟨_, pss_cons (ps_for PassesOwn.never rfl (pi_range1 rfl T.g_range (pa_cons (pe_fld (pv 0) rfl) pa_nil)) (pg_name (i := 2) nd rfl (Or.inl rfl))
        (pss_one (ps_if (pt_cmpR op_ne (pe_mn T.cl (ok_served T) hr pass0 (pv 0) (pa_cons (pe_op op_add (pv 2) (pv 1)) pa_nil)) (pe_op op_add (pe_ix ix_list (pe_fld (pv 0) rfl) (pv 2) (fun _ _ => rfl)) (pv 1)) (nomark _)) (pss_one (ps_ret pe_bl)) pss_nil)))
      (pss_one (ps_ret pe_bl)), ?_⟩
    refine ⟨_, rfl, p, C, dx, _, _, rfl, hp, T.cl, T.nLen, tf_len _ _, _, rfl, by omega, by omega, for_range (fun i σ H1 => ∃ vd : Option V, σ = [some (.ref p), some (.int (m : Int)), vd] ∧ H1 = H ∧ ∀ j : Nat, j < i → On ds ((j : Int) + (m : Int)) = ds.getD j 0 + (m : Int))
      ⟨_, rfl, rfl, fun j hj => absurd hj (Nat.not_lt_zero _)⟩ (fun i σ H1 hi hv => ?_) (fun σ H1 hv => ?_)⟩
    · obtain ⟨vd, rfl, rfl, hj⟩ := hv
      have e : (0 : Int) + (i : Int) = (i : Int) := Int.zero_add _
      refine ⟨_, rfl, p, dx, _, rfl, hp, tf_no _ _ (by decide +kernel) (by decide +kernel), _, rfl, _, rfl, _, _, rfl, rfl, p, ds, _, rfl, TA, OT.tab, by omega, ?_⟩
      refine ⟨_, rfl, p, C, dx, _, _, rfl, hp, T.cl, T.nDays, tf_days _ _, _, rfl, l, _, _, _, rfl, rfl, iL_seq hl, at_of (j := i) (by omega) (iL_at (by omega)), _, rfl, _, _, rfl, rfl, rfl, _, rfl, ?_⟩
      by_cases hc : On ds ((i : Int) + (m : Int)) = ds.getD i 0 + (m : Int)
      · refine iteND (by rw [e, hc]) ⟨_, rfl, rfl, fun j hj2 => ?_⟩
        by_cases hji : j = i
        · subst hji
          exact hc
        · exact hj j (by omega)
      · refine iteNDn (by rw [e]; exact fun z => hc (V.int.inj z)) (q false ⟨fun z => (nomatch z), fun z => ?_⟩)
        refine absurd ?_ hc
        rw [z, on_nat (by omega)]
    · obtain ⟨vd, rfl, rfl, hj⟩ := hv
      exact q true ⟨fun _ => per_of_list l1 fun i hi => hj i (by omega), fun _ => rfl⟩
def spShortest (C : Addr) : Sp := fun vs H Q _ => ∃ (p : Addr) (ds : List Int) (M : Int), vs = [.ref p] ∧ TabAt C H p ds ∧ OkT M ds ∧ ∀ p' ds' H', Short ds ds' → NewTab C H H' p' ds' → Q (.ref p') H'
theorem take_ok {M : Int} {ds : List Int} {m : Nat} (OT : OkT M ds) (h1 : 1 ≤ m) (h2 : m ≤ ds.length) (hp : Per (On ds) (m : Int)) : Tab (ds.take m) := by
  rw [take_tab h2]
  exact tab_ok h1 (Nat.le_trans h2 OT.tab.most) OT.rule.mono hp
theorem ok_shortest (T : Txt K mg C B L fB) : OkM P w K mg base C "shortest" CX0 6 ["self"] (spShortest C) := by
  refine T.m_Shortest.ok fun f fd F => F.ok c_TShortest (fun vs H Q E h => ?_) (fun cdv A outer s H vs Q E hr h => ?_)
  · obtain ⟨p, ds, M, rfl, _⟩ := h
    rfl
  · obtain ⟨p, ds, M, rfl, TA, OT, q⟩ := h
    obtain ⟨l, ⟨dx, hp⟩, hl⟩ := id TA
    have nd := c_TShortest.nd
    have l1 := OT.tab.pos
    have l2 := OT.tab.most
    refine ⟨_, pss_cons (ps_for PassesOwn.never rfl (pi_range2 rfl T.g_range (pa_cons pe_int (pa_cons (pe_fld (pv 0) rfl) pa_nil))) (pg_name (i := 1) nd rfl (Or.inl rfl))
        (pss_one (ps_if (PW.pt (pw_and (pt_cmpR op_eq (pe_op op_mod (pe_fld (pv 0) rfl) (pv 1)) pe_int (nomark _)) (pw_and1 (pt_val (pe_mn T.cl (ok_repeats T) (hr.mono (by decide)) pass0 (pv 0) (pa_cons (pv 1) pa_nil))))))
          (pss_one (ps_ret (pe_mk (ok_init T) hr T.gT pass0 (pa_cons (pe_slice sl_list (pe_fld (pv 0) rfl) po_none (po_some (pv 1))) pa_nil)))) pss_nil)))
      (pss_one (ps_ret (pe_mk (ok_init T) hr T.gT pass0 (pa_cons (pe_fld (pv 0) rfl) pa_nil)))), ?_⟩
    refine ⟨_, rfl, p, C, dx, _, _, rfl, hp, T.cl, T.nLen, tf_len _ _, _, _, rfl, ⟨by omega, by omega, by omega, by omega⟩, for_range (fun i σ H1 => ∃ vd : Option V, σ = [some (.ref p), vd] ∧ H1 = H ∧ ∀ j : Nat, 1 ≤ j → j < 1 + i → j ∣ ds.length → ¬ Per (On ds) (j : Int))
      ⟨_, rfl, rfl, fun j h1 h2 => absurd h2 (by omega)⟩ (fun i σ H1 hi hv => ?_) (fun σ H1 hv => ?_)⟩
    · obtain ⟨vd, rfl, rfl, hj⟩ := hv
      have e : (1 : Int) + (i : Int) = ((1 + i : Nat) : Int) := by omega
      have next : ¬ ((1 + i) ∣ ds.length ∧ Per (On ds) ((1 + i : Nat) : Int)) → ∀ j : Nat, 1 ≤ j → j < 1 + (i + 1) → j ∣ ds.length → ¬ Per (On ds) (j : Int) := fun hn j a b c d => by
        by_cases hji : j = 1 + i
        · subst hji
          exact hn ⟨c, d⟩
        · exact hj j a (by omega) c d
      refine ⟨_, rfl, p, C, dx, _, _, rfl, hp, T.cl, T.nLen, tf_len _ _, _, rfl, _, _, rfl, rfl, (by show (0 : Int) < 1 + (i : Int); omega), rfl, _, rfl, ?_⟩
      by_cases hd : (1 + i) ∣ ds.length
      · refine iteD (by show V.int ((ds.length : Int) % (1 + (i : Int))) = V.int 0; rw [e, Int.emod_eq_zero_of_dvd (Int.natCast_dvd_natCast.mpr hd)]) ?_
        refine ⟨_, rfl, p, dx, _, rfl, hp, tf_no _ _ (by decide +kernel) (by decide +kernel), _, rfl, p, ds, M, 1 + i, by rw [e]; rfl, TA, OT, by omega, fun r hr2 => ⟨r, rfl, ?_⟩⟩
        cases r with
        | true =>
          have hper := hr2.mp rfl
          refine iteB rfl ?_
          refine ⟨_, rfl, p, C, dx, _, _, rfl, hp, T.cl, T.nDays, tf_days _ _, _, rfl, _, rfl, l, _, rfl, iL_seq hl, fun c nc => ?_⟩
          rw [e, cut_take (by rw [iL_len]; omega), ← List.map_take]
          exact mk_tab upd_same (take_ok OT (by omega) (by omega) hper) fun p' H' n => q p' _ H' ⟨1 + i, by omega, hd, rfl, hper, fun j a b c2 => hj j a b c2⟩ (n.from (same_new nc))
        | false => exact iteBf rfl ⟨_, rfl, rfl, next fun z => by have := hr2.mpr z.2; cases this⟩
      · refine iteDn (fun z => hd ?_) ⟨_, rfl, rfl, next fun z => hd z.1⟩
        have z := V.int.inj z
        rw [e] at z
        exact Int.natCast_dvd_natCast.mp (Int.dvd_of_emod_eq_zero z)
    · obtain ⟨vd, rfl, rfl, hj⟩ := hv
      refine ⟨_, rfl, p, C, dx, _, _, rfl, hp, T.cl, T.nDays, tf_days _ _, ?_⟩
      exact mk_tab hl OT.tab fun p' H' n => q p' _ H' ⟨ds.length, l1, Nat.dvd_refl _, List.take_length.symm, OT.rule.per, fun j a b c => hj j a (by omega) c⟩ n
def spIsSame (C : Addr) : Sp := fun vs H Q _ => ∃ (p p2 : Addr) (as bs : List Int) (M M2 : Int), vs = [.ref p, .ref p2] ∧ TabAt C H p as ∧ TabAt C H p2 bs ∧ OkT M as ∧ OkT M2 bs ∧ ∀ (H' : Hp) (r : Bool), Same H H' → (r = true ↔ ∀ x, On as x = On bs x) → Q (.bl r) H'
theorem ok_isSame (T : Txt K mg C B L fB) : OkM P w K mg base C "is_same" CX0 7 ["self", "other_table"] (spIsSame C) := by
  refine T.m_IsSame.ok fun f fd F => F.ok c_TIsSame (fun vs H Q E h => ?_) (fun cdv A outer s H vs Q E hr h => ?_)
  · obtain ⟨p, p2, as, bs, M, M2, rfl, _⟩ := h
    rfl
  · obtain ⟨p, p2, as, bs, M, M2, rfl, TA, TB, OA, OB, q⟩ := h
    obtain ⟨la, ⟨dxa, hpa⟩, hla⟩ := id TA
    refine ⟨_, pss_one (ps_ret (pe_cmpR (op_eqD hr.units) (pe_mn0 T.cl (ok_days T) (hr.mono (by decide)) pass0 (pe_mn0 T.cl (ok_shortest T) hr pass0 (pv 0))) (pe_mn0 T.cl (ok_days T) (hr.mono (by decide)) pass0 (pe_mn0 T.cl (ok_shortest T) hr pass0 (pv 1))) (nomark _))), ?_⟩
    refine ⟨_, rfl, p, dxa, _, rfl, hpa, tf_no _ _ (by decide +kernel) (by decide +kernel), p, as, M, rfl, TA, OA, fun p1 ds1 H1 sh1 n1 => ?_⟩
    obtain ⟨l1, ⟨dx1, hp1⟩, hl1⟩ := n1.at
    refine ⟨p1, dx1, _, rfl, hp1, tf_no _ _ (by decide +kernel) (by decide +kernel), p1, ds1, rfl, n1.at, fun a1 H2 na1 s2 ha1 => ?_⟩
    have s02 := n1.same.trans s2
    have TB2 := TB.same s02
    obtain ⟨lb, ⟨dxb, hpb⟩, hlb⟩ := id TB2
    refine ⟨_, rfl, p2, dxb, _, rfl, hpb, tf_no _ _ (by decide +kernel) (by decide +kernel), p2, bs, M2, rfl, TB2, OB, fun p3 ds3 H3 sh3 n3 => ?_⟩
    obtain ⟨l3, ⟨dx3, hp3⟩, hl3⟩ := n3.at
    refine ⟨p3, dx3, _, rfl, hp3, tf_no _ _ (by decide +kernel) (by decide +kernel), p3, ds3, rfl, n3.at, fun a3 H4 na3 s4 ha3 => ?_⟩
    refine ⟨_, _, dp_ints (s4 _ _ (n3.same _ _ ha1)), dp_ints ha3, shaped_dI _, shaped_dI _, q _ _ ((s02.trans n3.same).trans s4) ?_⟩
    rw [eqv_dI, decide_eq_true_eq]
    exact short_same OA.tab.pos OB.tab.pos sh1 sh3
end
end K13
set_option Elab.async false
set_option linter.all false
set_option maxRecDepth 100000
set_option maxHeartbeats 4000000
namespace K13
open PySem PySem.Spec PyProof.Rows L2
/-! ### a for over enumerate -/
def ForGoal (J : It) (g : TG) (tb : TS) (D : Ends) (σ : L2.St) (H1 : Hp) : Prop := ∃ W : Nat → Nat → L2.St → Hp → Prop, (∃ m, W 0 m σ H1) ∧ ∀ i m σ H, W i m σ H →
  (J.stop i H ∧ D.nx σ H) ∨ (J.go i H ∧ ∃ N : L2.St → Hp → Prop, (∀ σ' H', N σ' H' → ∃ m', m' < m ∧ W (i + 1) m' σ' H') ∧
    ∀ x H', J.yld i H x H' → g x σ H' fun σ2 H2 => tb { D with nx := N, ct := N, bk := D.nx } σ2 H2)
def tForG (wi : TI) (g : TG) (tb : TS) : TS := fun D σ H => wi σ H fun J H1 => ForGoal J g tb D σ H1
theorem ps_forG {X : Cx} {tg iter : Expr} {body : List Stmt} {wi : TI} {g : TG} {tb : TS} {pos : Pos} (hp : PassesOwn (model X.prog X.w) X.A X.env X.xe) (hc : X.calm = true) (hi : PI X tg iter wi) (hg : PG X tg g) (hb : PSs X body tb)
    (hs : ∀ x, foldedSetIterable iter X.env x = pure x := by intro _; rfl) : PS X (.For tg iter body [] pos) (tForG wi g tb) := ps_for hp hc hi hg hb hs
theorem forE {K : PySem.W.Frag} {a : Addr} {xs : List V} {g : TG} {tb : TS} {D : Ends} {σ : L2.St} {H1 : Hp} (Pv : Nat → L2.St → Hp → Prop) (h0 : Pv 0 σ H1) (hl : ∀ i σ H, i ≤ xs.length → Pv i σ H → SqL K H a xs)
    (hs : ∀ i x σ H T, xs[i]? = some x → Pv i σ H → H T = none → g (.ref T) σ (upd H T (.tup [.int (i : Int), x])) fun σ2 H2 => tb { D with nx := Pv (i + 1), ct := Pv (i + 1), bk := D.nx } σ2 H2)
    (hd : ∀ σ H, Pv xs.length σ H → D.nx σ H) : ForGoal (Ite K a) g tb D σ H1 := by
  refine ⟨fun i m σ H => m = xs.length - i ∧ i ≤ xs.length ∧ Pv i σ H, ⟨xs.length, by simp, Nat.zero_le _, h0⟩, ?_⟩
  rintro i m σ H ⟨rfl, hi, p⟩
  have q := hl i σ H hi p
  by_cases hlt : i < xs.length
  · refine .inr ⟨⟨xs, xs[i], q, by simp [hlt]⟩, Pv (i + 1), fun σ' H' p' => ⟨xs.length - (i + 1), by omega, rfl, hlt, p'⟩, fun x H' y => ?_⟩
    obtain ⟨T, z, rfl, nT, rfl, e⟩ := y
    exact hs i z σ H T (e xs q) p nT
  · have e : i = xs.length := by omega
    subst e
    exact .inl ⟨⟨xs, q, Nat.le_refl _⟩, hd σ H p⟩
def optV : Option Nat → V
  | none => .non
  | some k => .int (k : Int)
section
variable {P : Program} {w : World} {K : PySem.W.Frag} {mg : Str → Option Value} {base : Heap} {C B L fB : Addr}
/-! ### common_length -/
/-- TooMany("length", 600), raised -/
def Refuse (B : Addr) (H : Hp) (E : XK) : Prop := ∀ d, H d = none → E (.ref B) (some d) (upd H d (.xd (tooF (.str "length") (.int 600))))
def Two (C : Addr) (H : Hp) (vs : List V) (as bs : List Int) : Prop := ∃ (p p2 : Addr) (M M2 : Int), vs = [.ref p, .ref p2] ∧ TabAt C H p as ∧ TabAt C H p2 bs ∧ OkT M as ∧ OkT M2 bs
def spCommon (C B : Addr) : Sp := fun vs H Q E => ∃ as bs : List Int, Two C H vs as bs ∧ (Nat.lcm as.length bs.length ≤ 600 → Q (.int (Nat.lcm as.length bs.length : Nat)) H) ∧ (600 < Nat.lcm as.length bs.length → Refuse B H E)
theorem ok_commonLength (T : Txt K mg C B L fB) : OkN P w K mg base "common_length" (L2.CX P w) 3 ["table", "other_table"] (spCommon C B) := by
  obtain ⟨tM, hM⟩ := T.gM
  refine T.d_commonLength.ok fun f fd F => F.okX c_commonLength (fun vs H Q E h => ?_) (fun cdv A outer s H vs Q E hr h => ?_)
  · obtain ⟨as, bs, ⟨p, p2, M, M2, rfl, _⟩, _⟩ := h
    rfl
  · obtain ⟨as, bs, ⟨p, p2, M, M2, rfl, TA, TB, OA, OB⟩, q1, q2⟩ := h
    obtain ⟨la, ⟨dxa, hpa⟩, hla⟩ := id TA
    obtain ⟨lb, ⟨dxb, hpb⟩, hlb⟩ := id TB
    have nd := c_commonLength.nd
    have a1 := OA.tab.pos
    have a2 := OA.tab.most
    have b1 := OB.tab.pos
    have b2 := OB.tab.most
    refine ⟨_, pss_cons (ps_set (i := 2) nd rfl (Or.inl rfl) (pe_callBfun cr_lcm rfl T.gLcm (pa_cons (pe_pr T.cl (ok_length T) hr pass0 (pv 0)) (pa_cons (pe_pr T.cl (ok_length T) hr pass0 (pv 1)) pa_nil))))
      (pss_cons (ps_expr (pe_cn (E := E) (ok_wantMost T) hr (passes_call (takes_of rfl rfl rfl rfl) (fun _ _ _ _ h => h)) (pa_cons pe_str (pa_cons (pe_glob (v := .int 600) rfl hM ⟨tM, rfl⟩) (pa_cons (pv 2) pa_nil)))))
      (pss_one (ps_ret (pv 2)))), ?_⟩
    refine ⟨_, rfl, p, dxa, _, rfl, hpa, p, as, rfl, TA, _, rfl, p2, dxb, _, rfl, hpb, p2, bs, rfl, TB, as.length, bs.length, rfl, a1, b1, by omega, by omega, ?_⟩
    refine ⟨_, rfl, "length", 600, _, rfl, fun h => ⟨_, rfl, q1 (by omega)⟩, fun h => q2 (by omega)⟩
/-! ### behind, later, sooner, gaps_of -/
def spMade (C B : Addr) (F : (Int → Int) → (Int → Int) → Int → Int) : Sp := fun vs H Q E => ∃ as bs : List Int, Two C H vs as bs ∧
  (Nat.lcm as.length bs.length ≤ 600 → ∀ p' H', NewTab C H H' p' (tabF (F (On as) (On bs)) (Nat.lcm as.length bs.length)) → Q (.ref p') H') ∧ (600 < Nat.lcm as.length bs.length → Refuse B H E)
def fBehind (f g : Int → Int) : Int → Int := fun x => f (g x)
def fLater (f g : Int → Int) : Int → Int := fun x => max (f x) (g x)
def fSooner (f g : Int → Int) : Int → Int := fun x => min (f x) (g x)
def fGap (f g : Int → Int) : Int → Int := fun x => f x - g x
theorem OkT.to_lcm {M : Int} {as bs : List Int} (h : OkT M as) (hb : 1 ≤ bs.length) : Rule M (Nat.lcm as.length bs.length) (On as) := h.rule.wide (lcm_pos1 h.tab.pos hb) (Nat.dvd_lcm_left _ _)
theorem OkT.to_lcm2 {M : Int} {as bs : List Int} (h : OkT M bs) (ha : 1 ≤ as.length) : Rule M (Nat.lcm as.length bs.length) (On bs) := h.rule.wide (lcm_pos1 ha h.tab.pos) (Nat.dvd_lcm_right _ _)
theorem ok_behind (T : Txt K mg C B L fB) : OkS P w K mg base "behind" (L2.CX P w) 6 (spMade C B fBehind) := by
  refine T.d_behind.ok fun f fd F => F.okX c_behind (fun vs H Q E h => ?_) (fun cdv A outer s H vs Q E hr h => ?_)
  · obtain ⟨as, bs, ⟨p, p2, M, M2, rfl, _⟩, _⟩ := h
    rfl
  · obtain ⟨as, bs, ⟨p, p2, M, M2, rfl, TA, TB, OA, OB⟩, q1, q2⟩ := h
    obtain ⟨la, ⟨dxa, hpa⟩, hla⟩ := id TA
    obtain ⟨lb, ⟨dxb, hpb⟩, hlb⟩ := id TB
    have nd := c_behind.nd
    refine ⟨_, pss_cons (ps_set (i := 2) nd rfl (Or.inl rfl) (pe_cn (E := E) (ok_commonLength T) (hr.mono (by decide)) (passes_call (takes_of rfl rfl rfl rfl) (fun _ _ _ _ h => h)) (pa_cons (pv 0) (pa_cons (pv 1) pa_nil))))
      (pss_one (ps_ret (pe_mk (ok_init T) hr T.gT pass0 (pa_cons (pe_lg (own := [("day", 3)]) (g := gName 3) (tt := tYes) rfl nd (pi_range1 rfl T.g_range (pa_cons (pv 2) pa_nil)) (blkOk_by (N := ["table", "other_table", "length", "day"]) (sc := defScope s_behind) (by decide +kernel)) (fun _ _ _ _ _ => pg_name (i := 3) nd rfl (Or.inl rfl)) (fun _ _ _ _ _ => pts_nil)
        (fun _ _ _ _ _ => pe_mn T.cl (ok_served T) (hr.mono (by decide)) pass0 (pv 0) (pa_cons (pe_mn T.cl (ok_served T) (hr.mono (by decide)) pass0 (pv 1) (pa_cons (pv 3) pa_nil)) pa_nil))) pa_nil)))), ?_⟩
    refine ⟨_, rfl, _, rfl, as, bs, ⟨p, p2, M, M2, rfl, TA, TB, OA, OB⟩, fun hl => ?_, q2⟩
    have r1 := OA.to_lcm OB.tab.pos
    have r2 := OB.to_lcm2 OA.tab.pos
    have rc := r1.comp r2
    refine ⟨_, rfl, _, rfl, by omega, by omega, lcR (fun i => V.int (On as (On bs (i : Int)))) (by omega) (fun _ => rfl) (fun i hi H3 R s3 k => ?_) (fun D H3 nD s3 hD => ?_)⟩
    · have e : (0 : Int) + (i : Int) = (i : Int) := Int.zero_add _
      have hn := on_near OB (i : Int)
      exact ⟨_, rfl, p, dxa, _, rfl, s3 _ _ hpa, tf_no _ _ (by decide +kernel) (by decide +kernel), _, rfl, p2, dxb, _, rfl, s3 _ _ hpb, tf_no _ _ (by decide +kernel) (by decide +kernel), _, rfl, p2, bs, _, rfl, TB.same s3, OB.tab, by omega,
        p, as, _, rfl, TA.same s3, OA.tab, by rw [e]; omega, q_of (by rw [e]) (k _ (Same.refl _))⟩
    · rw [tab_vals (fun x => On as (On bs x)), show ((Nat.lcm as.length bs.length : Nat) : Int).toNat = Nat.lcm as.length bs.length from Int.toNat_natCast _] at hD
      exact mk_tab hD (tab_ok rc.n1 hl rc.mono rc.per) fun p' H' n => q1 hl p' H' (n.from s3)
end
end K13
set_option Elab.async false
set_option linter.all false
set_option maxRecDepth 100000
set_option maxHeartbeats 4000000
namespace K13
open PySem PySem.Spec PyProof.Rows L2
theorem max_as (a b : Int) : max a b = if b > a then b else a := by
  split <;> omega
theorem min_as (a b : Int) : min a b = if b < a then b else a := by
  split <;> omega
theorem fLater_mono {f g : Int → Int} (h : Mono f) (h' : Mono g) : Mono (fLater f g) := fun x y q => by
  have a := h _ _ q
  have b := h' _ _ q
  unfold fLater
  omega
theorem fSooner_mono {f g : Int → Int} (h : Mono f) (h' : Mono g) : Mono (fSooner f g) := fun x y q => by
  have a := h _ _ q
  have b := h' _ _ q
  unfold fSooner
  omega
theorem fLater_per {f g : Int → Int} {n : Int} (h : Per f n) (h' : Per g n) : Per (fLater f g) n := fun x => by
  have a := h x
  have b := h' x
  unfold fLater
  omega
theorem fSooner_per {f g : Int → Int} {n : Int} (h : Per f n) (h' : Per g n) : Per (fSooner f g) n := fun x => by
  have a := h x
  have b := h' x
  unfold fSooner
  omega
section
variable {P : Program} {w : World} {K : PySem.W.Frag} {mg : Str → Option Value} {base : Heap} {C B L fB : Addr}
theorem ok_later (T : Txt K mg C B L fB) : OkS P w K mg base "later" (L2.CX P w) 6 (spMade C B fLater) := by
  refine T.d_later.ok fun f fd F => F.okX c_later (fun vs H Q E h => ?_) (fun cdv A outer s H vs Q E hr h => ?_)
  · obtain ⟨as, bs, ⟨p, p2, M, M2, rfl, _⟩, _⟩ := h
    rfl
  · obtain ⟨as, bs, ⟨p, p2, M, M2, rfl, TA, TB, OA, OB⟩, q1, q2⟩ := h
    obtain ⟨la, ⟨dxa, hpa⟩, hla⟩ := id TA
    obtain ⟨lb, ⟨dxb, hpb⟩, hlb⟩ := id TB
    have nd := c_later.nd
    refine ⟨_, pss_cons (ps_set (i := 2) nd rfl (Or.inl rfl) (pe_cn (E := E) (ok_commonLength T) (hr.mono (by decide)) (passes_call (takes_of rfl rfl rfl rfl) (fun _ _ _ _ h => h)) (pa_cons (pv 0) (pa_cons (pv 1) pa_nil))))
      (pss_one (ps_ret (pe_mk (ok_init T) hr T.gT pass0 (pa_cons (pe_lg (own := [("day", 3)]) (g := gName 3) (tt := tYes) rfl nd (pi_range1 rfl T.g_range (pa_cons (pv 2) pa_nil)) (blkOk_by (N := ["table", "other_table", "length", "day"]) (sc := defScope s_later) (by decide +kernel)) (fun _ _ _ _ _ => pg_name (i := 3) nd rfl (Or.inl rfl)) (fun _ _ _ _ _ => pts_nil)
        (fun _ _ _ _ _ => pe_callB (call_max2 rfl) (by rfl) T.g_max (by decide +kernel) (pa_cons (pe_mn T.cl (ok_served T) (hr.mono (by decide)) pass0 (pv 0) (pa_cons (pv 3) pa_nil)) (pa_cons (pe_mn T.cl (ok_served T) (hr.mono (by decide)) pass0 (pv 1) (pa_cons (pv 3) pa_nil)) pa_nil)))) pa_nil)))), ?_⟩
    refine ⟨_, rfl, _, rfl, as, bs, ⟨p, p2, M, M2, rfl, TA, TB, OA, OB⟩, fun hl => ?_, q2⟩
    have r1 := OA.to_lcm OB.tab.pos
    have r2 := OB.to_lcm2 OA.tab.pos
    refine ⟨_, rfl, _, rfl, by omega, by omega, lcR (fun i => V.int (fLater (On as) (On bs) (i : Int))) (by omega) (fun _ => rfl) (fun i hi H3 R s3 k => ?_) (fun D H3 nD s3 hD => ?_)⟩
    · have e : (0 : Int) + (i : Int) = (i : Int) := Int.zero_add _
      exact ⟨_, rfl, p, dxa, _, rfl, s3 _ _ hpa, tf_no _ _ (by decide +kernel) (by decide +kernel), _, rfl, p, as, _, rfl, TA.same s3, OA.tab, by omega,
        _, rfl, p2, dxb, _, rfl, s3 _ _ hpb, tf_no _ _ (by decide +kernel) (by decide +kernel), _, rfl, p2, bs, _, rfl, TB.same s3, OB.tab, by omega, _, _, rfl, q_of (by rw [e]; exact congrArg V.int (max_as _ _).symm) (k _ (Same.refl _))⟩
    · rw [tab_vals (fLater (On as) (On bs)), show ((Nat.lcm as.length bs.length : Nat) : Int).toNat = Nat.lcm as.length bs.length from Int.toNat_natCast _] at hD
      exact mk_tab hD (tab_ok r1.n1 hl (fLater_mono r1.mono r2.mono) (fLater_per r1.per r2.per)) fun p' H' n => q1 hl p' H' (n.from s3)
theorem ok_sooner (T : Txt K mg C B L fB) : OkS P w K mg base "sooner" (L2.CX P w) 6 (spMade C B fSooner) := by
  refine T.d_sooner.ok fun f fd F => F.okX c_sooner (fun vs H Q E h => ?_) (fun cdv A outer s H vs Q E hr h => ?_)
  · obtain ⟨as, bs, ⟨p, p2, M, M2, rfl, _⟩, _⟩ := h
    rfl
  · obtain ⟨as, bs, ⟨p, p2, M, M2, rfl, TA, TB, OA, OB⟩, q1, q2⟩ := h
    obtain ⟨la, ⟨dxa, hpa⟩, hla⟩ := id TA
    obtain ⟨lb, ⟨dxb, hpb⟩, hlb⟩ := id TB
    have nd := c_sooner.nd
    refine ⟨_, pss_cons (ps_set (i := 2) nd rfl (Or.inl rfl) (pe_cn (E := E) (ok_commonLength T) (hr.mono (by decide)) (passes_call (takes_of rfl rfl rfl rfl) (fun _ _ _ _ h => h)) (pa_cons (pv 0) (pa_cons (pv 1) pa_nil))))
      (pss_one (ps_ret (pe_mk (ok_init T) hr T.gT pass0 (pa_cons (pe_lg (own := [("day", 3)]) (g := gName 3) (tt := tYes) rfl nd (pi_range1 rfl T.g_range (pa_cons (pv 2) pa_nil)) (blkOk_by (N := ["table", "other_table", "length", "day"]) (sc := defScope s_sooner) (by decide +kernel)) (fun _ _ _ _ _ => pg_name (i := 3) nd rfl (Or.inl rfl)) (fun _ _ _ _ _ => pts_nil)
        (fun _ _ _ _ _ => pe_callB (call_min2 rfl) (by rfl) T.g_min (by decide +kernel) (pa_cons (pe_mn T.cl (ok_served T) (hr.mono (by decide)) pass0 (pv 0) (pa_cons (pv 3) pa_nil)) (pa_cons (pe_mn T.cl (ok_served T) (hr.mono (by decide)) pass0 (pv 1) (pa_cons (pv 3) pa_nil)) pa_nil)))) pa_nil)))), ?_⟩
    refine ⟨_, rfl, _, rfl, as, bs, ⟨p, p2, M, M2, rfl, TA, TB, OA, OB⟩, fun hl => ?_, q2⟩
    have r1 := OA.to_lcm OB.tab.pos
    have r2 := OB.to_lcm2 OA.tab.pos
    refine ⟨_, rfl, _, rfl, by omega, by omega, lcR (fun i => V.int (fSooner (On as) (On bs) (i : Int))) (by omega) (fun _ => rfl) (fun i hi H3 R s3 k => ?_) (fun D H3 nD s3 hD => ?_)⟩
    · have e : (0 : Int) + (i : Int) = (i : Int) := Int.zero_add _
      exact ⟨_, rfl, p, dxa, _, rfl, s3 _ _ hpa, tf_no _ _ (by decide +kernel) (by decide +kernel), _, rfl, p, as, _, rfl, TA.same s3, OA.tab, by omega,
        _, rfl, p2, dxb, _, rfl, s3 _ _ hpb, tf_no _ _ (by decide +kernel) (by decide +kernel), _, rfl, p2, bs, _, rfl, TB.same s3, OB.tab, by omega, _, _, rfl, q_of (by rw [e]; exact congrArg V.int (min_as _ _).symm) (k _ (Same.refl _))⟩
    · rw [tab_vals (fSooner (On as) (On bs)), show ((Nat.lcm as.length bs.length : Nat) : Int).toNat = Nat.lcm as.length bs.length from Int.toNat_natCast _] at hD
      exact mk_tab hD (tab_ok r1.n1 hl (fSooner_mono r1.mono r2.mono) (fSooner_per r1.per r2.per)) fun p' H' n => q1 hl p' H' (n.from s3)
/-! ### gaps_of -/
def spGaps (C B : Addr) : Sp := fun vs H Q E => ∃ as bs : List Int, Two C H vs as bs ∧
  (Nat.lcm as.length bs.length ≤ 600 → ∀ l H', H l = none → Same H H' → H' l = some (iL (tabF (fGap (On as) (On bs)) (Nat.lcm as.length bs.length))) → Q (.ref l) H') ∧ (600 < Nat.lcm as.length bs.length → Refuse B H E)
theorem ok_gapsOf (T : Txt K mg C B L fB) : OkN P w K mg base "gaps_of" (L2.CX P w) 4 ["table", "other_table"] (spGaps C B) := by
  refine T.d_gapsOf.ok fun f fd F => F.okX c_gapsOf (fun vs H Q E h => ?_) (fun cdv A outer s H vs Q E hr h => ?_)
  · obtain ⟨as, bs, ⟨p, p2, M, M2, rfl, _⟩, _⟩ := h
    rfl
  · obtain ⟨as, bs, ⟨p, p2, M, M2, rfl, TA, TB, OA, OB⟩, q1, q2⟩ := h
    obtain ⟨la, ⟨dxa, hpa⟩, hla⟩ := id TA
    obtain ⟨lb, ⟨dxb, hpb⟩, hlb⟩ := id TB
    have nd := c_gapsOf.nd
    refine ⟨_, pss_cons (ps_set (i := 2) nd rfl (Or.inl rfl) (pe_cn (E := E) (ok_commonLength T) (hr.mono (by decide)) (passes_call (takes_of rfl rfl rfl rfl) (fun _ _ _ _ h => h)) (pa_cons (pv 0) (pa_cons (pv 1) pa_nil))))
      (pss_one (ps_ret (pe_lg (own := [("day", 3)]) (g := gName 3) (tt := tYes) rfl nd (pi_range1 rfl T.g_range (pa_cons (pv 2) pa_nil)) (blkOk_by (N := ["table", "other_table", "length", "day"]) (sc := defScope s_gapsOf) (by decide +kernel)) (fun _ _ _ _ _ => pg_name (i := 3) nd rfl (Or.inl rfl)) (fun _ _ _ _ _ => pts_nil)
        (fun _ _ _ _ _ => pe_op op_sub (pe_mn T.cl (ok_served T) (hr.mono (by decide)) pass0 (pv 0) (pa_cons (pv 3) pa_nil)) (pe_mn T.cl (ok_served T) (hr.mono (by decide)) pass0 (pv 1) (pa_cons (pv 3) pa_nil)))))), ?_⟩
    refine ⟨_, rfl, _, rfl, as, bs, ⟨p, p2, M, M2, rfl, TA, TB, OA, OB⟩, fun hl => ?_, q2⟩
    refine ⟨_, rfl, _, rfl, by omega, by omega, lcR (fun i => V.int (fGap (On as) (On bs) (i : Int))) (by omega) (fun _ => rfl) (fun i hi H3 R s3 k => ?_) (fun D H3 nD s3 hD => ?_)⟩
    · have e : (0 : Int) + (i : Int) = (i : Int) := Int.zero_add _
      exact ⟨_, rfl, p, dxa, _, rfl, s3 _ _ hpa, tf_no _ _ (by decide +kernel) (by decide +kernel), _, rfl, p, as, _, rfl, TA.same s3, OA.tab, by omega,
        _, rfl, p2, dxb, _, rfl, s3 _ _ hpb, tf_no _ _ (by decide +kernel) (by decide +kernel), _, rfl, p2, bs, _, rfl, TB.same s3, OB.tab, by omega, _, _, rfl, rfl, q_of (by rw [e]; rfl) (k _ (Same.refl _))⟩
    · rw [tab_vals (fGap (On as) (On bs)), show ((Nat.lcm as.length bs.length : Nat) : Int).toNat = Nat.lcm as.length bs.length from Int.toNat_natCast _] at hD
      exact q1 hl D H3 nD s3 hD
/-! ### first_above, most_above, first_parting -/
def gaps (as bs : List Int) : List Int := tabF (fGap (On as) (On bs)) (Nat.lcm as.length bs.length)
def spFirst (C B : Addr) (pr : Int → Bool) : Sp := fun vs H Q E => ∃ as bs : List Int, Two C H vs as bs ∧
  (Nat.lcm as.length bs.length ≤ 600 → ∀ H', Same H H' → Q (optV (firstAt pr 0 (gaps as bs))) H') ∧ (600 < Nat.lcm as.length bs.length → Refuse B H E)
def prPos (y : Int) : Bool := decide (0 < y)
def prNe (y : Int) : Bool := decide (y ≠ 0)
theorem ok_firstAbove (T : Txt K mg C B L fB) : OkS P w K mg base "first_above" (L2.CX P w) 5 (spFirst C B prPos) := by
  refine T.d_firstAbove.ok fun f fd F => F.okX c_firstAbove (fun vs H Q E h => ?_) (fun cdv A outer s H vs Q E hr h => ?_)
  · obtain ⟨as, bs, ⟨p, p2, M, M2, rfl, _⟩, _⟩ := h
    rfl
  · obtain ⟨as, bs, ⟨p, p2, M, M2, rfl, TA, TB, OA, OB⟩, q1, q2⟩ := h
    have nd := c_firstAbove.nd
    refine ⟨_, pss_cons (ps_forG (passes_of rfl) rfl (pi_enum rfl T.g_enumerate (pa_cons (pe_cn (E := E) (ok_gapsOf T) hr (passes_call (takes_of rfl rfl rfl rfl) (fun _ _ _ _ h => h)) (pa_cons (pv 0) (pa_cons (pv 1) pa_nil))) pa_nil))
        (pg_tup rfl (pgs_cons (pg_name (i := 2) nd rfl (Or.inl rfl)) (pgs_cons (pg_name (i := 3) nd rfl (Or.inl rfl)) pgs_nil)))
        (pss_one (ps_if (pt_cmpR op_gt (pv 3) pe_int (nomark _)) (pss_one (ps_ret (pv 2))) pss_nil)))
      (pss_one (ps_ret pe_non)), ?_⟩
    refine ⟨_, rfl, _, rfl, as, bs, ⟨p, p2, M, M2, rfl, TA, TB, OA, OB⟩, fun hl l H1 nl s1 hg => ?_, q2⟩
    refine ⟨l, _, rfl, iL_seq hg, forE (xs := (gaps as bs).map V.int) (fun i σ H2 => ∃ v2 v3 : Option V, σ = [some (.ref p), some (.ref p2), v2, v3] ∧ Same H1 H2 ∧ ∀ (j : Nat), j < i → ∀ y, (gaps as bs)[j]? = some y → prPos y = false)
      ⟨_, _, rfl, Same.refl _, fun j hj => absurd hj (Nat.not_lt_zero _)⟩ (fun i σ H2 _ hv => ?_) (fun i x σ H2 Tp hx hv nT => ?_) (fun σ H2 hv => ?_)⟩
    · obtain ⟨_, _, _, s2, _⟩ := hv
      exact s2.seq (iL_seq hg)
    · obtain ⟨v2, v3, rfl, s2, hn⟩ := hv
      obtain ⟨rfl, hi⟩ := iL_get hx
      have hgi : (gaps as bs)[i]? = some ((gaps as bs).getD i 0) := by
        rw [List.getD_eq_getElem?_getD, List.getElem?_eq_getElem hi]
        rfl
      have s3 := s2.trans (same_new (o := .tup [.int (i : Int), .int ((gaps as bs).getD i 0)]) nT)
      refine ⟨Tp, [.int (i : Int), .int ((gaps as bs).getD i 0)], rfl, .inl (.inl upd_same), rfl, _, [.int ((gaps as bs).getD i 0)], rfl, _, [], rfl, rfl, ?_⟩
      generalize hz : (gaps as bs).getD i 0 = z at *
      refine ⟨_, rfl, _, _, rfl, rfl, _, rfl, ?_⟩
      by_cases hc : 0 < z
      · refine iteD hc ⟨_, rfl, q_of ?_ (q1 hl _ (s1.trans s3))⟩
        rw [firstAt_skip hn hgi (decide_eq_true hc), Nat.zero_add]
        rfl
      · refine iteDn hc ⟨_, _, rfl, s3, fun j hj y hy => ?_⟩
        by_cases hji : j = i
        · subst hji
          rw [hgi] at hy
          cases hy
          exact decide_eq_false hc
        · exact hn j (by omega) y hy
    · obtain ⟨v2, v3, rfl, s2, hn⟩ := hv
      rw [iL_len] at hn
      refine q_of ?_ (q1 hl _ (s1.trans s2))
      rw [firstAt_end fun j y hy => hn j (List.getElem?_eq_some_iff.mp hy).1 y hy]
      rfl
theorem ok_firstParting (T : Txt K mg C B L fB) : OkS P w K mg base "first_parting" (L2.CX P w) 5 (spFirst C B prNe) := by
  refine T.d_firstParting.ok fun f fd F => F.okX c_firstParting (fun vs H Q E h => ?_) (fun cdv A outer s H vs Q E hr h => ?_)
  · obtain ⟨as, bs, ⟨p, p2, M, M2, rfl, _⟩, _⟩ := h
    rfl
  · obtain ⟨as, bs, ⟨p, p2, M, M2, rfl, TA, TB, OA, OB⟩, q1, q2⟩ := h
    have nd := c_firstParting.nd
    refine ⟨_, pss_cons (ps_forG (passes_of rfl) rfl (pi_enum rfl T.g_enumerate (pa_cons (pe_cn (E := E) (ok_gapsOf T) hr (passes_call (takes_of rfl rfl rfl rfl) (fun _ _ _ _ h => h)) (pa_cons (pv 0) (pa_cons (pv 1) pa_nil))) pa_nil))
        (pg_tup rfl (pgs_cons (pg_name (i := 2) nd rfl (Or.inl rfl)) (pgs_cons (pg_name (i := 3) nd rfl (Or.inl rfl)) pgs_nil)))
        (pss_one (ps_if (pt_cmpR op_ne (pv 3) pe_int (nomark _)) (pss_one (ps_ret (pv 2))) pss_nil)))
      (pss_one (ps_ret pe_non)), ?_⟩
    refine ⟨_, rfl, _, rfl, as, bs, ⟨p, p2, M, M2, rfl, TA, TB, OA, OB⟩, fun hl l H1 nl s1 hg => ?_, q2⟩
    refine ⟨l, _, rfl, iL_seq hg, forE (xs := (gaps as bs).map V.int) (fun i σ H2 => ∃ v2 v3 : Option V, σ = [some (.ref p), some (.ref p2), v2, v3] ∧ Same H1 H2 ∧ ∀ (j : Nat), j < i → ∀ y, (gaps as bs)[j]? = some y → prNe y = false)
      ⟨_, _, rfl, Same.refl _, fun j hj => absurd hj (Nat.not_lt_zero _)⟩ (fun i σ H2 _ hv => ?_) (fun i x σ H2 Tp hx hv nT => ?_) (fun σ H2 hv => ?_)⟩
    · obtain ⟨_, _, _, s2, _⟩ := hv
      exact s2.seq (iL_seq hg)
    · obtain ⟨v2, v3, rfl, s2, hn⟩ := hv
      obtain ⟨rfl, hi⟩ := iL_get hx
      have hgi : (gaps as bs)[i]? = some ((gaps as bs).getD i 0) := by
        rw [List.getD_eq_getElem?_getD, List.getElem?_eq_getElem hi]
        rfl
      have s3 := s2.trans (same_new (o := .tup [.int (i : Int), .int ((gaps as bs).getD i 0)]) nT)
      refine ⟨Tp, [.int (i : Int), .int ((gaps as bs).getD i 0)], rfl, .inl (.inl upd_same), rfl, _, [.int ((gaps as bs).getD i 0)], rfl, _, [], rfl, rfl, ?_⟩
      generalize hz : (gaps as bs).getD i 0 = z at *
      refine ⟨_, rfl, rfl, _, rfl, ?_⟩
      by_cases hc : z ≠ 0
      · refine iteNDn (fun e => hc (V.int.inj e)) ⟨_, rfl, q_of ?_ (q1 hl _ (s1.trans s3))⟩
        rw [firstAt_skip hn hgi (decide_eq_true hc), Nat.zero_add]
        rfl
      · refine iteND (congrArg V.int (Decidable.not_not.mp hc)) ⟨_, _, rfl, s3, fun j hj y hy => ?_⟩
        by_cases hji : j = i
        · subst hji
          rw [hgi] at hy
          cases hy
          exact decide_eq_false hc
        · exact hn j (by omega) y hy
    · obtain ⟨v2, v3, rfl, s2, hn⟩ := hv
      rw [iL_len] at hn
      refine q_of ?_ (q1 hl _ (s1.trans s2))
      rw [firstAt_end fun j y hy => hn j (List.getElem?_eq_some_iff.mp hy).1 y hy]
      rfl
def spMost (C B : Addr) : Sp := fun vs H Q E => ∃ as bs : List Int, Two C H vs as bs ∧
  (Nat.lcm as.length bs.length ≤ 600 → ∀ m H', Same H H' → m ∈ gaps as bs → (∀ y, y ∈ gaps as bs → y ≤ m) → Q (.int m) H') ∧ (600 < Nat.lcm as.length bs.length → Refuse B H E)
theorem ok_mostAbove (T : Txt K mg C B L fB) : OkS P w K mg base "most_above" (L2.CX P w) 5 (spMost C B) := by
  refine T.d_mostAbove.ok fun f fd F => F.okX c_mostAbove (fun vs H Q E h => ?_) (fun cdv A outer s H vs Q E hr h => ?_)
  · obtain ⟨as, bs, ⟨p, p2, M, M2, rfl, _⟩, _⟩ := h
    rfl
  · obtain ⟨as, bs, ⟨p, p2, M, M2, rfl, TA, TB, OA, OB⟩, q1, q2⟩ := h
    refine ⟨_, pss_one (ps_ret (pe_callB (cr_max rfl) (by rfl) T.g_max (by decide +kernel) (pa_cons (pe_cn (E := E) (ok_gapsOf T) hr (passes_call (takes_of rfl rfl rfl rfl) (fun _ _ _ _ h => h)) (pa_cons (pv 0) (pa_cons (pv 1) pa_nil))) pa_nil))), ?_⟩
    refine ⟨_, rfl, _, rfl, as, bs, ⟨p, p2, M, M2, rfl, TA, TB, OA, OB⟩, fun hl l H1 nl s1 hg => ?_, q2⟩
    have := lcm_pos1 OA.tab.pos OB.tab.pos
    exact ⟨l, _, rfl, iL_seq hg, by rw [tabF_len]; omega, fun m h1 h2 => q1 hl m H1 s1 h1 h2⟩
end
end K13
set_option Elab.async false
set_option linter.all false
set_option maxRecDepth 100000
set_option maxHeartbeats 4000000
namespace K13
open PySem PySem.Spec PyProof.Rows L2
/-- a pot of digits stands at a -/
def Pot (H : Hp) (a : Addr) : Prop := ∃ x y : Int, H a = some (.lst [.int x, .int y]) ∧ 0 ≤ x ∧ 0 ≤ y ∧ y < 2 ^ 32
theorem Pot.same {H H' : Hp} {a : Addr} (h : Pot H a) (s : Same H H') : Pot H' a := by
  obtain ⟨x, y, e, r⟩ := h
  exact ⟨x, y, s _ _ e, r⟩
section
variable {P : Program} {w : World} {K : PySem.W.Frag} {mg : Str → Option Value} {base : Heap} {C B L fB : Addr}
/-! ### _law_pot -/
def spPot (K : PySem.W.Frag) : Sp := fun vs H Q _ => ∃ (a : Addr) (ns : List Int) (k : Nat), vs = [.ref a, .int (k : Int)] ∧ SqL K H a (ns.map V.int) ∧ k ≤ 1000 ∧ ∀ l H', H l = none → Same H H' → Pot H' l → Q (.ref l) H'
theorem max_nn (x : Int) : 0 ≤ (if x > 0 then x else 0) := by split <;> omega
theorem ok_pot (T : Txt K mg C B L fB) : OkN P w K mg base "_law_pot" CX0 1 ["_law_script", "_law_k"] (spPot K) := by
  refine T.d_pot.ok fun f fd F => F.ok c_pot (fun vs H Q E h => ?_) (fun cdv A outer s H vs Q E hr h => ?_)
  · obtain ⟨a, ns, k, rfl, _⟩ := h
    rfl
  · obtain ⟨a, ns, k, rfl, hS, hk, q⟩ := h
    have nd := c_pot.nd
    refine ⟨_, pss_cons (ps_set (i := 2) nd rfl (Or.inl rfl) (pe_ifExp (pt_cmpR op_lt (pv 1) (pe_callB call_len_seq (by rfl) T.g_len PySem.boot_len (pa_cons (pv 0) pa_nil)) (nomark _))
        (pe_callB call_abs (by rfl) T.g_abs (by decide +kernel) (pa_cons (pe_ix ix_list (pv 0) (pv 1) (fun _ _ => rfl)) pa_nil)) (pe_op op_add (pe_op op_mul pe_int (pv 1)) pe_int)))
      (pss_one (ps_ret (pe_lst (pa_cons (pe_callB (call_max2 rfl) (by rfl) T.g_max (by decide +kernel) (pa_cons pe_int (pa_cons (pe_op op_sub (pv 2) (pe_op op_pow pe_int pe_int)) pa_nil)))
        (pa_cons (pe_op op_add (pe_op op_mod (pe_callTy call_int1 (by rfl) T.g_int (by decide +kernel) (pa_cons (pe_op op_add (pe_op op_add (pe_op op_mul (pe_op op_mod (pe_callTy call_int1 (by rfl) T.g_int (by decide +kernel) (pa_cons (pv 2) pa_nil)) pe_int) pe_int) (pe_op op_mul pe_int (pv 1))) pe_int) pa_nil)) pe_int) pe_int) pa_nil))))), ?_⟩
    have m1 : ∀ x : Int, 0 ≤ x % 2147483587 ∧ x % 2147483587 < 2147483587 := fun x => ⟨Int.emod_nonneg _ (by decide), Int.emod_lt_of_pos _ (by decide)⟩
    have m2 : ∀ x : Int, 0 ≤ x % 2147483563 ∧ x % 2147483563 < 2147483563 := fun x => ⟨Int.emod_nonneg _ (by decide), Int.emod_lt_of_pos _ (by decide)⟩
    refine ⟨_, rfl, _, rfl, a, _, rfl, .inl hS, _, _, rfl, rfl, _, rfl, ite2 (fun c => ?_) (fun c => ?_)⟩
    · have c : (k : Int) < ((ns.map V.int).length : Nat) := of_decide_eq_true c
      rw [iL_len] at c
      refine ⟨_, rfl, _, rfl, a, _, _, _, rfl, rfl, hS, at_of (j := k) rfl (iL_at (by omega)), _, rfl, ?_⟩
      refine ⟨_, rfl, _, _, rfl, rfl, ⟨by decide, by decide, by decide⟩, _, _, rfl, rfl, _, _, rfl, _, rfl, .inl ⟨_, rfl, _, _, rfl, rfl, (by show (0 : Int) < 2147483587; decide), _, _, rfl, rfl, .inl ⟨by have := (m1 (if ns.getD k 0 < 0 then -ns.getD k 0 else ns.getD k 0)).1; omega, by have := (m1 (if ns.getD k 0 < 0 then -ns.getD k 0 else ns.getD k 0)).2; omega⟩, _, rfl, _, _, rfl, rfl, .inl ⟨by decide, by decide⟩, _, _, rfl, rfl, _, _, rfl, rfl,
        .inl ⟨_, rfl, _, _, rfl, rfl, (by show (0 : Int) < 2147483563; decide), _, _, rfl, rfl, (by show 2 ≤ sizeLine; decide), fun l hl => q l _ hl (same_new hl) ⟨_, _, upd_same, max_nn _, ?_, ?_⟩⟩⟩⟩
      · exact Int.add_nonneg (m2 _).1 (by decide)
      · exact Int.lt_trans (Int.add_lt_add_right (m2 _).2 1) (by decide)
    · refine ⟨_, rfl, _, _, rfl, rfl, .inl ⟨by decide, by decide⟩, _, _, rfl, rfl, ?_⟩
      refine ⟨_, rfl, _, _, rfl, rfl, ⟨by decide, by decide, by decide⟩, _, _, rfl, rfl, _, _, rfl, _, rfl, .inl ⟨_, rfl, _, _, rfl, rfl, (by show (0 : Int) < 2147483587; decide), _, _, rfl, rfl, .inl ⟨by have := (m1 (181 * (k : Int) + 79)).1; omega, by have := (m1 (181 * (k : Int) + 79)).2; omega⟩, _, rfl, _, _, rfl, rfl, .inl ⟨by decide, by decide⟩, _, _, rfl, rfl, _, _, rfl, rfl,
        .inl ⟨_, rfl, _, _, rfl, rfl, (by show (0 : Int) < 2147483563; decide), _, _, rfl, rfl, (by show 2 ≤ sizeLine; decide), fun l hl => q l _ hl (same_new hl) ⟨_, _, upd_same, max_nn _, ?_, ?_⟩⟩⟩⟩
      · exact Int.add_nonneg (m2 _).1 (by decide)
      · exact Int.lt_trans (Int.add_lt_add_right (m2 _).2 1) (by decide)
/-! ### _law_draw, _law_pick -/
theorem rest_nat (u : Int) {n : Nat} (h : 1 ≤ n) : ∃ r : Nat, r < n ∧ u % (n : Int) = (r : Int) := by
  have h1 := Int.emod_nonneg u (show (n : Int) ≠ 0 by omega)
  have h2 := Int.emod_lt_of_pos u (show (0 : Int) < (n : Int) by omega)
  exact ⟨(u % (n : Int)).toNat, by omega, by omega⟩
def spDraw : Sp := fun vs H Q _ => ∃ (a : Addr) (n : Nat), vs = [.ref a, .int (n : Int)] ∧ Pot H a ∧ 1 ≤ n ∧ n ≤ 1000 ∧ ∀ (r : Nat) H', r < n → But a H H' → Pot H' a → Q (.int (r : Int)) H'
theorem ok_draw (T : Txt K mg C B L fB) : OkN P w K mg base "_law_draw" CX0 1 ["_law_pot_here", "_law_size"] spDraw := by
  refine T.d_draw.ok fun f fd F => F.ok c_draw (fun vs H Q E h => ?_) (fun cdv A outer s H vs Q E hr h => ?_)
  · obtain ⟨a, n, rfl, _⟩ := h
    rfl
  · obtain ⟨a, n, rfl, ⟨x, y, ha, x0, y0, y1⟩, n1, n2, q⟩ := h
    have nd := c_draw.nd
    refine ⟨_, pss_cons (ps_if (pt_cmpR op_gt (pe_ix ix_list (pv 0) pe_int (fun _ _ => rfl)) pe_int (nomark _))
        (pss_cons (ps_asg (pe_callB call_divmod (by rfl) T.g_divmod (by decide +kernel) (pa_cons (pe_ix ix_list (pv 0) pe_int (fun _ _ => rfl)) (pa_cons (pv 1) pa_nil))) (pg_tup rfl (pgs_cons (pg_sub (pv 0) pe_int set_list) (pgs_cons (pg_name (i := 2) nd rfl (Or.inl rfl)) pgs_nil))))
        (pss_one (ps_ret (pv 2)))) pss_nil)
      (pss_cons (ps_asg (pe_op op_mod (pe_callTy call_int1 (by rfl) T.g_int (by decide +kernel) (pa_cons (pe_op op_add (pe_op op_mul (pe_ix ix_list (pv 0) pe_int (fun _ _ => rfl)) pe_int) pe_int) pa_nil)) pe_int) (pg_sub (pv 0) pe_int set_list))
      (pss_one (ps_ret (pe_op op_mod (pe_callTy call_int1 (by rfl) T.g_int (by decide +kernel) (pa_cons (pe_op op_fdiv (pe_op op_mod (pe_callTy call_int1 (by rfl) T.g_int (by decide +kernel) (pa_cons (pe_op op_mul (pe_ix ix_list (pv 0) pe_int (fun _ _ => rfl)) (pe_ix ix_list (pv 0) pe_int (fun _ _ => rfl))) pa_nil)) pe_int) pe_int) pa_nil)) (pv 1))))), ?_⟩
    have sh : SqL K H a [.int x, .int y] := SqL.of ha
    refine ⟨_, rfl, a, _, _, _, rfl, rfl, sh, at_of (j := 0) rfl rfl, _, _, rfl, rfl, _, rfl, ite2 (fun c => ?_) (fun c => ?_)⟩
    · refine ⟨_, rfl, a, _, _, _, rfl, rfl, sh, at_of (j := 0) rfl rfl, _, rfl, _, _, rfl, ⟨by omega, by omega⟩, fun t nt => ?_⟩
      have nat : a ≠ t := ne_of_none ha nt
      refine ⟨t, _, rfl, .inl (.inl upd_same), rfl, _, _, rfl, ?_⟩
      refine ⟨_, rfl, a, _, _, 0, rfl, rfl, (by rw [upd_ne nat]; exact ha), rfl, _, _, rfl, rfl, _, rfl, ?_⟩
      obtain ⟨r, hr2, er⟩ := rest_nat x n1
      refine q_of (congrArg V.int er) (q r _ hr2 (fun b o e hb => ?_) ⟨x / (n : Int), y, upd_same, Int.ediv_nonneg x0 (by omega), y0, y1⟩)
      rw [upd_ne hb]
      exact same_new nt _ _ e
    · refine ⟨_, rfl, a, _, _, _, rfl, rfl, sh, at_of (j := 1) rfl rfl, _, _, rfl, rfl, .inl ⟨by omega, by omega⟩, _, _, rfl, rfl, .inl ⟨_, rfl, _, _, rfl, rfl, (by show (0 : Int) < 2147483563; decide), _, rfl, a, _, _, 1, rfl, rfl, ha, rfl, ?_⟩⟩
      have z1 : 0 ≤ (y * 39397 + 30029) % 2147483563 ∧ (y * 39397 + 30029) % 2147483563 < 2147483563 := ⟨Int.emod_nonneg _ (by decide), Int.emod_lt_of_pos _ (by decide)⟩
      have sh2 : SqL K (upd H a (.lst ([V.int x, V.int y].set 1 (.int ((y * 39397 + 30029) % 2147483563))))) a [.int x, .int ((y * 39397 + 30029) % 2147483563)] := SqL.of upd_same
      refine ⟨_, rfl, a, _, _, _, rfl, rfl, sh2, at_of (j := 1) rfl rfl, _, rfl, a, _, _, _, rfl, rfl, sh2, at_of (j := 1) rfl rfl, _, _, rfl, rfl, .inl ⟨by omega, by omega⟩, .inl ⟨_, rfl, _, _, rfl, rfl, (by show (0 : Int) < 2147483587; decide), _, _, rfl, rfl, ⟨by decide, by decide⟩, .inl ⟨_, rfl, _, rfl, _, _, rfl, rfl, (by show (0 : Int) < (n : Int); omega), ?_⟩⟩⟩
      obtain ⟨r, hr2, er⟩ := rest_nat ((y * 39397 + 30029) % 2147483563 * ((y * 39397 + 30029) % 2147483563) % 2147483587 / 23) n1
      exact q_of (congrArg V.int er) (q r _ hr2 but_upd ⟨x, (y * 39397 + 30029) % 2147483563, upd_same, x0, z1.1, by omega⟩)
def spPick : Sp := fun vs H Q _ => ∃ (a b : Addr) (ds : List Int), vs = [.ref a, .ref b] ∧ Pot H a ∧ H b = some (iL ds) ∧ b ≠ a ∧ 1 ≤ ds.length ∧ ds.length ≤ 1000 ∧ ∀ (r : Int) H', r ∈ ds → But a H H' → Pot H' a → Q (.int r) H'
theorem ok_pick (T : Txt K mg C B L fB) : OkN P w K mg base "_law_pick" CX0 2 ["_law_pot_here", "_law_some"] spPick := by
  refine T.d_pick.ok fun f fd F => F.ok c_pick (fun vs H Q E h => ?_) (fun cdv A outer s H vs Q E hr h => ?_)
  · obtain ⟨a, b, ds, rfl, _⟩ := h
    rfl
  · obtain ⟨a, b, ds, rfl, PA, hb, nba, l1, l2, q⟩ := h
    refine ⟨_, pss_one (ps_ret (pe_ix ix_list (pv 1) (pe_cn (ok_draw T) hr pass0 (pa_cons (pv 0) (pa_cons (pe_callB call_len_seq (by rfl) T.g_len PySem.boot_len (pa_cons (pv 1) pa_nil)) pa_nil))) (fun _ _ => rfl))), ?_⟩
    refine ⟨_, rfl, _, rfl, _, rfl, b, _, rfl, .inl (iL_seq hb), a, ds.length, (by rw [iL_len]; rfl), PA, l1, l2, fun r H' hr2 s1 P1 => ?_⟩
    have hb1 := s1 _ _ hb nba
    refine ⟨b, _, _, _, rfl, rfl, iL_seq hb1, at_of (j := r) rfl (iL_at hr2), q _ _ ?_ s1 P1⟩
    rw [List.getD_eq_getElem?_getD, List.getElem?_eq_getElem hr2]
    exact List.getElem_mem hr2
end
end K13
set_option Elab.async false
set_option linter.all false
set_option maxRecDepth 100000
set_option maxHeartbeats 4000000
namespace K13
open PySem PySem.Spec PyProof.Rows L2
/-! ### lists of drawn days, in plain words -/
/-- made so far: i + 1 days from z on, none earlier than the one ahead; left is what may still be added -/
structure Grow (ds : List Int) (z : Int) (n i : Nat) (left : Int) : Prop where
  len : ds.length = i + 1
  head : ds.getD 0 0 = z
  mono : ∀ j : Nat, j + 1 < ds.length → ds.getD j 0 ≤ ds.getD (j + 1) 0
  last : ds.getD (ds.length - 1) 0 + left = z + n
  left0 : 0 ≤ left
theorem getD_app {ds : List Int} {x : Int} {j : Nat} (h : j < ds.length) : (ds ++ [x]).getD j 0 = ds.getD j 0 := by
  rw [List.getD_eq_getElem?_getD, List.getD_eq_getElem?_getD, List.getElem?_append_left h]
theorem getD_end {ds : List Int} {x : Int} : (ds ++ [x]).getD ds.length 0 = x := by
  rw [List.getD_eq_getElem?_getD, List.getElem?_append_right (Nat.le_refl _), Nat.sub_self]
  rfl
theorem Grow.next {ds : List Int} {z : Int} {n i : Nat} {left st : Int} (g : Grow ds z n i left) (h0 : 0 ≤ st) (h1 : st ≤ left) : Grow (ds ++ [ds.getD (ds.length - 1) 0 + st]) z n (i + 1) (left - st) := by
  have hl := g.len
  refine ⟨by rw [List.length_append, hl]; rfl, by rw [getD_app (by omega)]; exact g.head, fun j hj => ?_, ?_, by omega⟩
  · rw [List.length_append] at hj
    have hj : j + 1 < ds.length + 1 := hj
    by_cases e : j + 1 < ds.length
    · rw [getD_app (by omega), getD_app e]
      exact g.mono j e
    · have e2 : j + 1 = ds.length := by omega
      rw [e2, getD_end, getD_app (by omega), show ds.length - 1 = j by omega]
      omega
  · rw [List.length_append]
    show (ds ++ [_]).getD (ds.length + 1 - 1) 0 + _ = _
    rw [Nat.add_sub_cancel, getD_end]
    have := g.last
    omega
theorem mono_le {ds : List Int} (h : ∀ j : Nat, j + 1 < ds.length → ds.getD j 0 ≤ ds.getD (j + 1) 0) : ∀ (k i : Nat), i + k < ds.length → ds.getD i 0 ≤ ds.getD (i + k) 0
  | 0, _, _ => Int.le_refl _
  | k + 1, i, hi => Int.le_trans (mono_le h k i (by omega)) (h (i + k) (by omega))
theorem Grow.near {ds : List Int} {z : Int} {n i : Nat} {left : Int} (g : Grow ds z n i left) (j : Nat) (hj : j < ds.length) : z ≤ ds.getD j 0 ∧ ds.getD j 0 ≤ z + n := by
  have a := mono_le g.mono j 0 (by omega)
  rw [Nat.zero_add, g.head] at a
  have b := mono_le g.mono (ds.length - 1 - j) j (by omega)
  rw [show j + (ds.length - 1 - j) = ds.length - 1 by omega] at b
  have := g.last
  have := g.left0
  omega
theorem Grow.tab {ds : List Int} {z : Int} {n : Nat} {left : Int} (hn : 1 ≤ n) (hm : n ≤ 600) (g : Grow ds z n (n - 1) left) : Tab ds := by
  have hl := g.len
  refine ⟨by omega, by omega, g.mono, ?_⟩
  have := g.last
  have := g.left0
  rw [g.head]
  omega
/-- days near by make a rule near by -/
theorem lead_of {ds : List Int} {B : Int} (h1 : 1 ≤ ds.length) (h2 : ds.length ≤ 600) (h : ∀ j : Nat, j < ds.length → -B ≤ ds.getD j 0 ∧ ds.getD j 0 ≤ B) : Lead (B + 600) (On ds) := fun x => by
  obtain ⟨a1, a2, a3⟩ := split_of (x := x) (L := (ds.length : Int)) (by omega)
  have b := h (x % (ds.length : Int)).toNat (by omega)
  unfold On
  omega
theorem okT_of {ds : List Int} {B : Int} (TD : Tab ds) (hB : B ≤ 100000) (h : ∀ j : Nat, j < ds.length → -B ≤ ds.getD j 0 ∧ ds.getD j 0 ≤ B) : OkT (B + 600) ds :=
  ⟨TD, ⟨TD.pos, TD.on_mono, TD.on_per, lead_of TD.pos TD.most h⟩, by omega⟩
section
variable {P : Program} {w : World} {K : PySem.W.Frag} {mg : Str → Option Value} {base : Heap} {C B L fB : Addr}
/-! ### _law_days -/
def spLDays : Sp := fun vs H Q _ => ∃ (a : Addr) (n : Nat) (z : Int), vs = [.ref a, .int (n : Int), .int z] ∧ Pot H a ∧ 1 ≤ n ∧ n ≤ 600 ∧
  ∀ (l : Addr) (ds : List Int) H', H l = none → But a H H' → Pot H' a → H' l = some (iL ds) → ds.length = n → Tab ds → (∀ j : Nat, j < ds.length → z ≤ ds.getD j 0 ∧ ds.getD j 0 ≤ z + n) → Q (.ref l) H'
theorem ok_lDays (T : Txt K mg C B L fB) : OkN P w K mg base "_law_days" CX0 3 ["_law_pot_here", "_law_length", "_law_first"] spLDays := by
  refine T.d_days.ok fun f fd F => F.ok c_days (fun vs H Q E h => ?_) (fun cdv A outer s H vs Q E hr h => ?_)
  · obtain ⟨a, n, z, rfl, _⟩ := h
    rfl
  · obtain ⟨a, n, z, rfl, PA, n1, n2, q⟩ := h
    have nd := c_days.nd
    refine ⟨_, pss_cons (ps_par (i := 3) (j := 4) rfl nd rfl rfl (by decide) rfl rfl (pa_cons (pe_lst (pa_cons (pv 2) pa_nil)) (pa_cons (pv 1) pa_nil)) (by rfl))
      (pss_cons (ps_for PassesOwn.never rfl (pi_range1 rfl T.g_range (pa_cons (pe_op op_sub (pv 1) pe_int) pa_nil)) (pg_name (i := 5) nd rfl (Or.inl rfl))
        (pss_cons (ps_set (i := 6) nd rfl (Or.inl rfl) (pe_callB (call_min2 rfl) (by rfl) T.g_min (by decide +kernel) (pa_cons (pv 4) (pa_cons (pe_cn (ok_pick T) hr pass0 (pa_cons (pv 0) (pa_cons (pe_lst (pa_cons pe_int (pa_cons pe_int (pa_cons pe_int (pa_cons pe_int (pa_cons pe_int (pa_cons pe_int (pa_cons (pv 1) pa_nil)))))))) pa_nil))) pa_nil))))
        (pss_cons (ps_expr (pe_bm PySem.F.plainAttrs_list PySem.F.slot_list_append PySem.F.type_list_append mt_append (pv 3) (pa_cons (pe_op op_add (pe_ix ix_list (pv 3) (pe_un un_neg pe_int) (fun _ _ => rfl)) (pv 6)) pa_nil)))
        (pss_one (ps_set (i := 4) nd rfl (Or.inl rfl) (pe_op op_sub (pv 4) (pv 6)))))))
      (pss_one (ps_ret (pv 3)))), ?_⟩
    -- [first], length
    refine ⟨_, rfl, (by show 1 ≤ sizeLine; decide), fun l nl => ⟨_, rfl, _, _, rfl, ?_⟩⟩
    have nla : l ≠ a := by
      obtain ⟨x, y, ha, _⟩ := PA
      exact (ne_of_none ha nl).symm
    -- for turn in range(length - 1)
    refine ⟨_, rfl, _, _, rfl, rfl, _, rfl, by omega, by omega, for_range (fun i σ H1 => ∃ (ds : List Int) (left : Int) (v5 v6 : Option V), σ = [some (.ref a), some (.int (n : Int)), some (.int z), some (.ref l), some (.int left), v5, v6] ∧ Grow ds z n i left ∧ H1 l = some (iL ds) ∧ But a H H1 ∧ Pot H1 a)
      ⟨[z], n, _, _, rfl, ⟨rfl, rfl, fun j hj => absurd hj (by simp), rfl, by omega⟩, upd_same, Same.but (same_new nl), PA.same (same_new nl)⟩ (fun i σ H1 hi hv => ?_) (fun σ H1 hv => ?_)⟩
    · obtain ⟨ds, left, v5, v6, rfl, g, hl, s1, P1⟩ := hv
      have gl := g.len
      -- step = min(left, pick(..))
      refine ⟨_, rfl, _, rfl, _, rfl, (by show 7 ≤ sizeLine; decide), fun b nb => ?_⟩
      have s2 := same_new (o := iL [0, 0, 1, 1, 2, 3, (n : Int)]) nb
      have nba : b ≠ a := by
        obtain ⟨x, y, ha, _⟩ := P1
        exact (ne_of_none ha nb).symm
      have nlb : l ≠ b := ne_of_none hl nb
      refine ⟨a, b, [0, 0, 1, 1, 2, 3, (n : Int)], rfl, P1.same s2, upd_same, nba, (by show 1 ≤ 7; decide), (by show 7 ≤ 1000; decide), fun r H2 hr2 s3 P2 => ⟨_, _, rfl, ?_⟩⟩
      have hl2 : H2 l = some (iL ds) := s3 _ _ (s2 _ _ hl) nla
      have r0 : 0 ≤ r := by
        simp only [List.mem_cons, List.not_mem_nil, or_false] at hr2
        omega
      have st : ∃ t : Int, (if r < left then r else left) = t ∧ 0 ≤ t ∧ t ≤ left := by
        have := g.left0
        refine ⟨_, rfl, ?_⟩
        split <;> omega
      obtain ⟨t, et, t0, t1⟩ := st
      rw [et]
      -- days.append(days[-1] + step)
      refine ⟨_, rfl, .inl ⟨rfl, _, iL_seq hl2⟩, _, rfl, _, rfl, l, _, _, _, rfl, rfl, iL_seq hl2, at_end rfl (by rw [iL_len]; omega) (by rw [iL_len]; exact iL_at (show ds.length - 1 < ds.length by omega)), _, rfl, _, _, rfl, rfl, l, _, _, rfl, rfl, hl2, (by rw [iL_len]; exact line600 (by omega)), ?_⟩
      -- left = left - step
      refine ⟨_, rfl, _, rfl, _, _, rfl, rfl, ds ++ [ds.getD (ds.length - 1) 0 + t], left - t, _, _, rfl, g.next t0 t1, ?_, fun x o e hx => ?_, ?_⟩
      · rw [upd_same]
        unfold iL
        rw [List.map_append]
        rfl
      · have e1 : H1 x = some o := s1 x o e hx
        rw [upd_ne (ne_of_none e nl)]
        exact s3 _ _ (s2 _ _ e1) hx
      · obtain ⟨x, y, ha, hxy⟩ := P2
        exact ⟨x, y, by rw [upd_ne nla.symm]; exact ha, hxy⟩
    · obtain ⟨ds, left, v5, v6, rfl, g, hl, s1, P1⟩ := hv
      have e : ((n : Int) - 1).toNat = n - 1 := by omega
      rw [e] at g
      have gl := g.len
      exact ⟨_, rfl, q l ds H1 nl s1 P1 hl (by omega) (g.tab n1 n2) g.near⟩
/-! ### _law_on, _law_common, _law_told -/
def spLOn (K : PySem.W.Frag) : Sp := fun vs H Q _ => ∃ (a : Addr) (ds : List Int) (d : Int), vs = [.ref a, .int d] ∧ H a = some (iL ds) ∧ 1 ≤ ds.length ∧ ds.length ≤ 1000 ∧ d.natAbs ≤ 2 ^ 60 ∧ Q (.int (On ds d)) H
theorem ok_lOn (T : Txt K mg C B L fB) : OkN P w K mg base "_law_on" CX0 1 ["_law_days_here", "_law_day"] (spLOn K) := by
  refine T.d_on.ok fun f fd F => F.ok c_on (fun vs H Q E h => ?_) (fun cdv A outer s H vs Q E hr h => ?_)
  · obtain ⟨a, ds, d, rfl, _⟩ := h
    rfl
  · obtain ⟨a, ds, d, rfl, ha, l1, l2, hd, q⟩ := h
    have nd := c_on.nd
    have hS : SqL K H a (ds.map V.int) := iL_seq ha
    refine ⟨_, pss_cons (ps_set (i := 2) nd rfl (Or.inl rfl) (pe_op op_mul (pe_op op_fdiv (pv 1) (pe_callB call_len_seq (by rfl) T.g_len PySem.boot_len (pa_cons (pv 0) pa_nil))) (pe_callB call_len_seq (by rfl) T.g_len PySem.boot_len (pa_cons (pv 0) pa_nil))))
      (pss_one (ps_ret (pe_op op_add (pe_ix ix_list (pv 0) (pe_op op_sub (pv 1) (pv 2)) (fun _ _ => rfl)) (pv 2)))), ?_⟩
    obtain ⟨h1, h2, h3⟩ := split_of (x := d) (L := (ds.length : Int)) (by omega)
    have hm := div_small (n := ds.length) hd
    have el : (((ds.map V.int).length : Nat) : Int) = (ds.length : Int) := by rw [iL_len]
    refine ⟨_, rfl, _, rfl, a, _, rfl, .inl hS, _, _, rfl, rfl, ⟨by omega, by omega⟩, _, rfl, a, _, rfl, .inl hS, _, _, rfl, rfl, .inl (by rw [el]; exact hm), ?_⟩
    rw [el]
    exact ⟨_, rfl, _, rfl, _, rfl, _, _, rfl, rfl, a, _, _, _, rfl, rfl, hS, at_of (j := (d % (ds.length : Int)).toNat) (by omega) (iL_at (by omega)), _, rfl, _, _, rfl, rfl, q⟩
def spLCommon : Sp := fun vs H Q _ => ∃ a b : Nat, vs = [.int (a : Int), .int (b : Int)] ∧ 1 ≤ a ∧ 1 ≤ b ∧ a ≤ 1000 ∧ b ≤ 1000 ∧ Q (.int (Nat.lcm a b : Nat)) H
theorem dvd_floor {x b : Nat} : ((x : Int) / (b : Int) * (b : Int) = (x : Int)) ↔ b ∣ x := by
  constructor
  · intro h
    exact Int.natCast_dvd_natCast.mp ⟨(x : Int) / (b : Int), by rw [Int.mul_comm]; exact h.symm⟩
  · intro h
    exact Int.ediv_mul_cancel (Int.natCast_dvd_natCast.mpr h)
theorem ok_lCommon (T : Txt K mg C B L fB) : OkN P w K mg base "_law_common" CX0 1 ["_law_one", "_law_other"] spLCommon := by
  refine T.d_common.ok fun f fd F => F.ok c_common (fun vs H Q E h => ?_) (fun cdv A outer s H vs Q E hr h => ?_)
  · obtain ⟨a, b, rfl, _⟩ := h
    rfl
  · obtain ⟨a, b, rfl, a1, b1, a2, b2, q⟩ := h
    have nd := c_common.nd
    refine ⟨_, pss_cons (ps_set (i := 2) nd rfl (Or.inl rfl) (pv 0))
      (pss_cons (ps_while PassesOwn.never (pt_cmpR op_ne (pe_op op_mul (pe_op op_fdiv (pv 2) (pv 1)) (pv 1)) (pv 2) (nomark _)) (pss_one (ps_set (i := 2) nd rfl (Or.inl rfl) (pe_op op_add (pv 2) (pv 0)))))
      (pss_one (ps_ret (pv 2)))), ?_⟩
    refine ⟨_, rfl, fun m σ H1 => ∃ k : Nat, σ = [some (.int (a : Int)), some (.int (b : Int)), some (.int ((a * k : Nat) : Int))] ∧ H1 = H ∧ m = b - k ∧ 1 ≤ k ∧ k ≤ b ∧ ∀ j, 1 ≤ j → j < k → ¬ b ∣ a * j,
      ⟨_, 1, by rw [Nat.mul_one]; rfl, rfl, rfl, Nat.le_refl _, b1, fun j h1 h2 => absurd h2 (by omega)⟩, ?_⟩
    rintro m σ H1 ⟨k, rfl, rfl, rfl, k1, k2, kn⟩
    have hk : a * k ≤ 1000 * 1000 := Nat.mul_le_mul a2 (Nat.le_trans k2 b2)
    refine ⟨_, rfl, _, rfl, _, _, rfl, rfl, ⟨by omega, by omega⟩, _, rfl, _, _, rfl, rfl, .inl (div_small (by omega)), _, rfl, rfl, _, rfl, ?_⟩
    by_cases hd : b ∣ a * k
    · exact iteND (congrArg V.int (dvd_floor.mpr hd)) ⟨_, rfl, q_of (by rw [lcm_search a1 b1 k1 hd kn]) q⟩
    · have hkb : k < b := by
        refine Nat.lt_of_le_of_ne k2 fun e => hd ?_
        rw [e]
        exact Nat.dvd_mul_left b a
      refine iteNDn (fun e => hd (dvd_floor.mp (V.int.inj e))) ⟨fun σ' H' => ∃ k' : Nat, σ' = [some (.int (a : Int)), some (.int (b : Int)), some (.int ((a * k' : Nat) : Int))] ∧ H' = H1 ∧ b - k' < b - k ∧ 1 ≤ k' ∧ k' ≤ b ∧ ∀ j, 1 ≤ j → j < k' → ¬ b ∣ a * j,
        fun σ' H' ⟨k', e1, e2, e3, e4⟩ => ⟨_, e3, k', e1, e2, rfl, e4⟩, ?_⟩
      refine ⟨_, rfl, _, rfl, _, _, rfl, rfl, k + 1, ?_, rfl, by omega, by omega, by omega, fun j h1 h2 => ?_⟩
      · rw [Nat.mul_add, Nat.mul_one, Int.natCast_add]
        rfl
      · by_cases e : j = k
        · rw [e]
          exact hd
        · exact kn j h1 (by omega)
def spTold (C : Addr) : Sp := fun vs H Q _ => ∃ (p : Addr) (ds : List Int), vs = [.ref p] ∧ TabAt C H p ds ∧ ∀ l c H', H l = none → H c = none → Same H H' → H' l = some (.lst [.bl true, .ref c, .int (ds.length : Int)]) → H' c = some (iL ds) → Q (.ref l) H'
theorem ok_told (T : Txt K mg C B L fB) : OkN P w K mg base "_law_told" CX0 3 ["_law_table"] (spTold C) := by
  refine T.d_told.ok fun f fd F => F.ok c_told (fun vs H Q E h => ?_) (fun cdv A outer s H vs Q E hr h => ?_)
  · obtain ⟨p, ds, rfl, _⟩ := h
    rfl
  · obtain ⟨p, ds, rfl, TA, q⟩ := h
    obtain ⟨l, ⟨dx, hp⟩, hl⟩ := id TA
    refine ⟨_, pss_one (ps_ret (pe_lst (pa_cons (pe_callB call_isi (by rfl) T.g_isinstance (by decide +kernel) (pa_cons (pv 0) (pa_cons (pe_glob (v := .ref C) rfl T.gT rfl) pa_nil)))
      (pa_cons (pe_mn0 T.cl (ok_days T) (hr.mono (by decide)) pass0 (pv 0)) (pa_cons (pe_pr T.cl (ok_length T) hr pass0 (pv 0)) pa_nil))))), ?_⟩
    refine ⟨_, rfl, _, _, _, _, true, rfl, .own C, .base (.ins hp T.cl T.cA T.cN T.cT T.cM), T.kOne, _, rfl, p, dx, _, rfl, hp, tf_no _ _ (by decide +kernel) (by decide +kernel), p, ds, rfl, TA, fun c H1 nc s1 hc => ?_⟩
    refine ⟨_, rfl, p, dx, _, rfl, s1 _ _ hp, p, ds, rfl, TA.same s1, (by show 3 ≤ sizeLine; decide), fun t nt => ?_⟩
    exact q t c _ (s1.free nt) nc (s1.trans (same_new nt)) upd_same (same_new nt _ _ hc)
end
end K13
set_option Elab.async false
set_option linter.all false
set_option maxRecDepth 100000
set_option maxHeartbeats 4000000
/-! Lists of rows [True, days, length]: made by a comprehension, shown by repr. -/
namespace K13
open PySem PySem.Spec PyProof.Rows L2
/-- [e for x in xs], each e a thing that stands in the heap, told by its place -/
theorem lcN {te : TE} {vs : List Nat} {σ : L2.St} {H1 : Hp} {Q : VK} {j : Nat} {K : PySem.W.Frag} {a : Addr} {xs : List V} (G : Addr → Nat → Hp → V → Prop) (hG : ∀ D i H H' y, But D H H' → G D i H y → G D i H' y)
    (hs : SqL K H1 a xs) (hn : xs.length ≤ 1000) (hw : ∀ x, wipe ((wipe σ vs).set j (some x)) vs = wipe σ vs)
    (ht : ∀ D i x, H1 D = none → xs[i]? = some x → ∀ H (R : VK), Same H1 H → (∃ o, H D = some o) → (∀ H4 y, Same H H4 → G D i H4 y → R y H4) → te ((wipe σ vs).set j (some x)) H R)
    (hq : ∀ D H' ys, H1 D = none → Same H1 H' → H' D = some (.lst ys) → ys.length = xs.length → (∀ (i : Nat) y, ys[i]? = some y → G D i H' y) → Q (.ref D) H') : LcGoal (Itl K a) (gName j) tYes te vs σ H1 Q := by
  intro D nD
  refine lc_list (K := K) (a := a) (xs := xs) (fun i H => Same H1 H ∧ ∃ ys, H D = some (.lst ys) ∧ ys.length = i ∧ ∀ (n : Nat) y, ys[n]? = some y → G D n H y) ⟨same_new nD, [], upd_same, rfl, fun n y h => by simp at h⟩ (fun i H hi p => p.1.seq hs) (fun i x H hx p => ?_) (fun H p => ?_)
  · obtain ⟨s, ys, hD, hl, hg⟩ := p
    have hi : i < xs.length := (List.getElem?_eq_some_iff.mp hx).1
    refine ⟨hw _, ?_⟩
    unfold tYes
    dsimp only
    rw [if_pos rfl]
    refine ht D i x nD hx H _ s ⟨_, hD⟩ fun H4 y s4 gy => ⟨ys, s4 _ _ hD, line600 (by omega), same_put nD (s.trans s4), ys ++ [y], upd_same, by rw [List.length_append, hl]; rfl, fun n z hz => ?_⟩
    by_cases e : n < ys.length
    · rw [List.getElem?_append_left e] at hz
      exact hG D n H4 _ z but_upd (hG D n H H4 z (Same.but s4) (hg n z hz))
    · rw [List.getElem?_append_right (by omega)] at hz
      have e2 : n = ys.length := by
        refine Nat.le_antisymm (Nat.not_lt.mp fun q => ?_) (by omega)
        rw [List.getElem?_eq_none (by show 1 ≤ n - ys.length; omega)] at hz
        cases hz
      subst e2
      rw [Nat.sub_self] at hz
      cases hz
      rw [hl]
      exact hG D i H4 _ y but_upd gy
  · obtain ⟨s, ys, hD, hl, hg⟩ := p
    exact hq D H ys nD s hD hl hg
/-- at y a row [True, ds, n], apart from D -/
def RowAt (D : Addr) (H : Hp) (y : V) (ds : List Int) (n : Nat) : Prop := ∃ l c, y = .ref l ∧ l ≠ D ∧ c ≠ D ∧ H l = some (.lst [.bl true, .ref c, .int (n : Int)]) ∧ H c = some (iL ds)
theorem RowAt.but {D : Addr} {H H' : Hp} {y : V} {ds : List Int} {n : Nat} (b : But D H H') (h : RowAt D H y ds n) : RowAt D H' y ds n := by
  obtain ⟨l, c, e, h1, h2, h3, h4⟩ := h
  exact ⟨l, c, e, h1, h2, b _ _ h3 h1, b _ _ h4 h2⟩
def rowD (ds : List Int) : PyData := .list [.bool true, dI ds, .int (ds.length : Int)]
theorem RowAt.dp {K : PySem.W.Frag} {D : Addr} {H : Hp} {y : V} {ds : List Int} (h : RowAt D H y ds ds.length) : Dp K H y (rowD ds) := by
  obtain ⟨l, c, rfl, h1, h2, h3, h4⟩ := h
  exact .lst (SqL.of h3) (.cons (.bl true) (.cons (dp_ints h4) (.cons (.int _) .nil)))
theorem rows_all {K : PySem.W.Frag} {D : Addr} {H : Hp} : ∀ {ys : List V} {dss : List (List Int)}, ys.length = dss.length → (∀ (i : Nat) y, ys[i]? = some y → ∃ ds, dss[i]? = some ds ∧ RowAt D H y ds ds.length) → DpAll K H ys (dss.map rowD)
  | [], [], _, _ => .nil
  | [], _ :: _, h, _ => nomatch h
  | _ :: _, [], h, _ => nomatch h
  | y :: ys, ds :: dss, h, g => by
    obtain ⟨ds', e, r⟩ := g 0 y rfl
    cases e
    exact .cons r.dp (rows_all (Nat.succ.inj h) fun i z hz => g (i + 1) z hz)
theorem rows_dp {K : PySem.W.Frag} {D : Addr} {H : Hp} {ys : List V} {dss : List (List Int)} (hD : H D = some (.lst ys)) (hl : ys.length = dss.length) (g : ∀ (i : Nat) y, ys[i]? = some y → ∃ ds, dss[i]? = some ds ∧ RowAt D H y ds ds.length) :
    Dp K H (.ref D) (.list (dss.map rowD)) := .lst (SqL.of hD) (rows_all hl g)
/-! what repr asks of such data -/
structure Fine (d : PyData) : Prop where
  show_ : d.showable = true
  nodict : d.hasDict = false
  depth : d.depth ≤ 40
  size : d.shown.length ≤ sizeLine
def Small (ds : List Int) : Prop := ds.length ≤ 1000 ∧ ∀ d ∈ ds, d.natAbs < 10 ^ 12
theorem row_showable {ds : List Int} (h : Small ds) : (rowD ds).showable = true := by
  have h1 : ((ds.length : Int)).natAbs.log2 < 1920 := by
    have h2 : ((ds.length : Int)).natAbs < 2 ^ 64 := by have := h.1; omega
    have h3 := PySem.W.mg_log (k := 63) h2
    omega
  unfold rowD dI
  simp only [PyData.showable, PyData.showableAll, showable_ints ds h.2, decide_eq_true h1, Bool.and_self]
theorem row_short {ds : List Int} (h : Small ds) : (rowD ds).leavesShort 13 = true := by
  have h1 := PyData.shown_int_le (i := (ds.length : Int)) (by have := h.1; omega)
  unfold rowD dI
  simp only [PyData.leavesShort, PyData.leavesShortAll, short_ints ds h.2, decide_eq_true h1, Bool.and_self]
theorem row_weight {ds : List Int} (h : Small ds) : (rowD ds).weight ≤ 65000 := by
  have h1 := weight_ints ds h.2
  have h2 := weight_int (d := (ds.length : Int)) (by have := h.1; omega)
  have h3 := h.1
  unfold rowD dI
  simp only [PyData.weight, PyData.weightAll] at h2 ⊢
  omega
theorem row_nodict (ds : List Int) : (rowD ds).hasDict = false := by
  unfold rowD dI
  simp only [PyData.hasDict, PyData.hasDictAll, nodict_ints ds, Bool.or_self]
theorem row_depth (ds : List Int) : (rowD ds).depth = 2 := by
  unfold rowD dI
  simp only [PyData.depth, PyData.depthAll, depth_ints ds]
  decide
theorem rows_showable : ∀ {dss : List (List Int)}, (∀ ds ∈ dss, Small ds) → PyData.showableAll (dss.map rowD) = true
  | [], _ => by simp only [List.map_nil, PyData.showableAll]
  | d :: dss, h => by simp only [List.map_cons, PyData.showableAll, row_showable (h d List.mem_cons_self), rows_showable fun e he => h e (List.mem_cons_of_mem _ he), Bool.and_self]
theorem rows_short : ∀ {dss : List (List Int)}, (∀ ds ∈ dss, Small ds) → PyData.leavesShortAll 13 (dss.map rowD) = true
  | [], _ => by simp only [List.map_nil, PyData.leavesShortAll]
  | d :: dss, h => by simp only [List.map_cons, PyData.leavesShortAll, row_short (h d List.mem_cons_self), rows_short fun e he => h e (List.mem_cons_of_mem _ he), Bool.and_self]
theorem rows_weight : ∀ {dss : List (List Int)}, (∀ ds ∈ dss, Small ds) → PyData.weightAll (dss.map rowD) ≤ 66000 * dss.length
  | [], _ => by simp only [List.map_nil, PyData.weightAll]; exact Nat.zero_le _
  | d :: dss, h => by
    have h1 := row_weight (h d List.mem_cons_self)
    have h2 := rows_weight fun e he => h e (List.mem_cons_of_mem _ he)
    simp only [List.map_cons, PyData.weightAll, List.length_cons]
    omega
theorem rows_nodict : ∀ (dss : List (List Int)), PyData.hasDictAll (dss.map rowD) = false
  | [] => by simp only [List.map_nil, PyData.hasDictAll]
  | d :: dss => by simp only [List.map_cons, PyData.hasDictAll, row_nodict d, rows_nodict dss, Bool.or_self]
theorem rows_depth : ∀ (dss : List (List Int)), PyData.depthAll (dss.map rowD) ≤ 2
  | [] => by simp only [List.map_nil, PyData.depthAll]; exact Nat.zero_le _
  | d :: dss => by
    have := rows_depth dss
    simp only [List.map_cons, PyData.depthAll, row_depth d]
    omega
theorem rows_fine {dss : List (List Int)} (hl : dss.length ≤ 10) (h : ∀ ds ∈ dss, Small ds) : Fine (.list (dss.map rowD)) := by
  refine ⟨?_, ?_, ?_, PyData.shown_fits (B := 13) (by decide) (by decide) ?_ ?_⟩
  · simp only [PyData.showable, rows_showable h]
  · simp only [PyData.hasDict, rows_nodict]
  · have := rows_depth dss
    simp only [PyData.depth]
    omega
  · simp only [PyData.leavesShort, rows_short h]
  · have := rows_weight h
    simp only [PyData.weight]
    omega
/-! Tables and what is put later -/
theorem TabAt.old {C : Addr} {H H' : Hp} {p g : Addr} {ds : List Int} (h : TabAt C H p ds) (ng : H g = none) (b : But g H H') : TabAt C H' p ds := by
  obtain ⟨l, ⟨dx, u⟩, v⟩ := h
  exact ⟨l, ⟨dx, b _ _ u (ne_of_none u ng)⟩, b _ _ v (ne_of_none v ng)⟩
theorem NewTab.put {C : Addr} {H H' : Hp} {p g : Addr} {ds : List Int} {o u : HO} (n : NewTab C H H' p ds) (hg : H g = some o) : TabAt C (upd H' g u) p ds := by
  obtain ⟨np, s, l, nl, t⟩ := n
  exact ⟨l, t.but but_upd (ne_of_none hg np).symm (ne_of_none hg nl).symm⟩
end K13
set_option Elab.async false
set_option linter.all false
set_option maxRecDepth 100000
set_option maxHeartbeats 8000000
namespace K13
open PySem PySem.Spec PyProof.Rows L2
section
variable {vs : List Nat} {σ : L2.St} {H1 : Hp} {Q : VK} {j : Nat} {K : PySem.W.Frag} {a : Addr} {xs : List V} {C : Addr}
/-- [_law_told(one) for one in tables] -/
theorem lcTold {dss : List (List Int)} (hs : SqL K H1 a xs) (hl : xs.length = dss.length) (hn : xs.length ≤ 1000) (hw : ∀ x, wipe ((wipe σ vs).set j (some x)) vs = wipe σ vs) (hj : ∀ x, ((wipe σ vs).set j (some x))[j]? = some (some x))
    (hT : ∀ (i : Nat) x, xs[i]? = some x → ∃ p ds, x = .ref p ∧ dss[i]? = some ds ∧ TabAt C H1 p ds) (hq : ∀ D H', H1 D = none → Same H1 H' → Dp K H' (.ref D) (.list (dss.map rowD)) → Q (.ref D) H') :
    LcGoal (Itl K a) (gName j) tYes (tCall (spTold C) [] E0 (tCons (tVar j) tNil)) vs σ H1 Q := by
  refine lcN (fun D i H y => ∃ ds, dss[i]? = some ds ∧ RowAt D H y ds ds.length) (fun D i H H' y b h => ?_) hs hn hw (fun D i x nD hx H R s hD k => ?_) (fun D H' ys nD s hD hl2 g => hq D H' nD s (rows_dp hD (hl2.trans hl) g))
  · obtain ⟨ds, e, r⟩ := h
    exact ⟨ds, e, r.but b⟩
  · obtain ⟨p, ds, rfl, e, TA⟩ := hT i x hx
    obtain ⟨o, hD⟩ := hD
    exact ⟨_, hj _, p, ds, rfl, TA.same s, fun l c H4 nl nc s4 hl4 hc => k H4 _ s4 ⟨ds, e, l, c, rfl, (ne_of_none hD nl).symm, (ne_of_none hD nc).symm, hl4, hc⟩⟩
/-- [[True, one, length] for one in lists] -/
theorem lcDue {dss : List (List Int)} {i4 n : Nat} (hs : SqL K H1 a xs) (hl : xs.length = dss.length) (hn : xs.length ≤ 1000) (hw : ∀ x, wipe ((wipe σ vs).set j (some x)) vs = wipe σ vs) (hj : ∀ x, ((wipe σ vs).set j (some x))[j]? = some (some x)) (h4 : ∀ x, ((wipe σ vs).set j (some x))[i4]? = some (some (.int (n : Int))))
    (hT : ∀ (i : Nat) x, xs[i]? = some x → ∃ c ds, x = .ref c ∧ dss[i]? = some ds ∧ H1 c = some (iL ds) ∧ ds.length = n) (hq : ∀ D H', H1 D = none → Same H1 H' → Dp K H' (.ref D) (.list (dss.map rowD)) → Q (.ref D) H') :
    LcGoal (Itl K a) (gName j) tYes (tLst (tCons (tC (.bl true)) (tCons (tVar j) (tCons (tVar i4) tNil)))) vs σ H1 Q := by
  refine lcN (fun D i H y => ∃ ds, dss[i]? = some ds ∧ RowAt D H y ds ds.length) (fun D i H H' y b h => ?_) hs hn hw (fun D i x nD hx H R s hD k => ?_) (fun D H' ys nD s hD hl2 g => hq D H' nD s (rows_dp hD (hl2.trans hl) g))
  · obtain ⟨ds, e, r⟩ := h
    exact ⟨ds, e, r.but b⟩
  · obtain ⟨c, ds, rfl, e, hc, en⟩ := hT i x hx
    obtain ⟨o, hD⟩ := hD
    refine ⟨_, hj _, _, h4 _, (by show 3 ≤ sizeLine; decide), fun l nl => k _ _ (same_new nl) ⟨ds, e, l, c, rfl, (ne_of_none hD nl).symm, ne_of_none hc nD, ?_, same_new nl _ _ (s _ _ hc)⟩⟩
    rw [upd_same, en]
end
end K13
set_option Elab.async false
set_option linter.all false
set_option maxRecDepth 100000
set_option maxHeartbeats 8000000
namespace K13
open PySem PySem.Spec PyProof.Rows L2
def onV (as : List Int) : V → V
  | .int z => .int (On as z)
  | v => v
theorem map_onV (as : List Int) (g : Int → Int) (n : Nat) : ((tabF g n).map V.int).map (onV as) = (tabF (fun x => On as (g x)) n).map V.int := by
  unfold tabF
  rw [List.map_map, List.map_map, List.map_map]
  rfl
theorem small_tab {f : Int → Int} {n : Nat} (hn : n ≤ 1000) (h : ∀ i : Nat, i < n → -5000000 ≤ f (i : Int) ∧ f (i : Int) ≤ 5000000) : Small (tabF f n) := by
  refine ⟨by rw [tabF_len]; exact hn, fun d hd => ?_⟩
  obtain ⟨i, hi, rfl⟩ := tabF_mem hd
  have := h i hi
  omega
abbrev nJ : List Str := ["_law_table", "_law_days_here", "_law_other_table", "_law_others", "_law_length", "_law_some", "_law_more", "_law_due", "_law_told_here", "_law_again", "_law_day", "_law_one"]
theorem bkJ {scope : Scope} {own : List (Str × Nat)} (h : blkC nJ (defScope s_joinedRight) scope own = true) : BlkOk nJ (defScope s_joinedRight) scope own := blkOk_by h
theorem three_of {Pp : Nat → V → Prop} {x0 x1 x2 : V} (h0 : Pp 0 x0) (h1 : Pp 1 x1) (h2 : Pp 2 x2) : ∀ (i : Nat) x, ([x0, x1, x2] : List V)[i]? = some x → Pp i x := fun i x h =>
  match i, h with
  | 0, h => by cases h; exact h0
  | 1, h => by cases h; exact h1
  | 2, h => by cases h; exact h2
  | _ + 3, h => by simp at h
def three3 (as bs : List Int) (n : Nat) : List (List Int) := [tabF (fBehind (On as) (On bs)) n, tabF (fLater (On as) (On bs)) n, tabF (fSooner (On as) (On bs)) n]
theorem three_small {M M2 : Int} {as bs : List Int} {n : Nat} (OA : OkT M as) (OB : OkT M2 bs) (hn : n ≤ 600) : ∀ ds ∈ three3 as bs n, Small ds := fun ds hd => by
  unfold three3 at hd
  simp only [List.mem_cons, List.not_mem_nil, or_false] at hd
  rcases hd with rfl | rfl | rfl
  · refine small_tab (by omega) fun i hi => ?_
    have a := on_near OB (i : Int)
    have b := on_near OA (On bs (i : Int))
    unfold fBehind
    omega
  · refine small_tab (by omega) fun i hi => ?_
    have a := on_near OB (i : Int)
    have b := on_near OA (i : Int)
    unfold fLater
    omega
  · refine small_tab (by omega) fun i hi => ?_
    have a := on_near OB (i : Int)
    have b := on_near OA (i : Int)
    unfold fSooner
    omega
section
variable {P : Program} {w : World} {K : PySem.W.Frag} {mg : Str → Option Value} {base : Heap} {C B L fB : Addr}
/-! ### _law_joined_right -/
/-- the arguments of _law_joined_right and _law_held_right -/
def Four (C : Addr) (H : Hp) (vs : List V) (as bs : List Int) : Prop := ∃ (p a p2 b : Addr) (M M2 : Int), vs = [.ref p, .ref a, .ref p2, .ref b] ∧ TabAt C H p as ∧ H a = some (iL as) ∧ TabAt C H p2 bs ∧ H b = some (iL bs) ∧ OkT M as ∧ OkT M2 bs ∧ Nat.lcm as.length bs.length ≤ 600
def spRight (C : Addr) : Sp := fun vs H Q _ => ∃ as bs : List Int, Four C H vs as bs ∧ ∀ H', Same H H' → Q (.bl true) H'
theorem ok_joined (T : Txt K mg C B L fB) : OkG P w K mg base "_law_joined_right" 7 ["_law_table", "_law_days_here", "_law_other_table", "_law_others"] (spRight C) := by
  refine T.d_joinedRight.okG fun f fd F => F.okG c_joinedRight (fun vs H Q E h => ?_) (fun cdv A outer s H vs Q E hgd hr h => ?_)
  · obtain ⟨as, bs, ⟨p, a, p2, b, M, M2, rfl, _⟩, _⟩ := h
    rfl
  · obtain ⟨as, bs, ⟨p, a, p2, b, M, M2, rfl, TA, ha, TB, hb, OA, OB, hlcm⟩, q⟩ := h
    have nd := c_joinedRight.nd
    have a1 := OA.tab.pos
    have a2 := OA.tab.most
    have b1 := OB.tab.pos
    have b2 := OB.tab.most
    have r1 := OA.to_lcm b1
    have r2 := OB.to_lcm2 a1
    have hgd' : (A.deeper (envOfC "_law_joined_right" (defScope s_joinedRight) s.heap.objs.size f cdv)).guards = some [] := hgd
    refine ⟨_, pss_cons (ps_set (i := 4) nd rfl (Or.inr rfl) (pe_cn (ok_lCommon T) (hr.mono (by decide)) pass0 (pa_cons (pe_callB call_len_seq (by rfl) T.g_len PySem.boot_len (pa_cons (pv 1) pa_nil)) (pa_cons (pe_callB call_len_seq (by rfl) T.g_len PySem.boot_len (pa_cons (pv 3) pa_nil)) pa_nil))))
      (pss_cons (ps_asg (pe_tup (pa_cons (pe_lg (own := [("_law_day", 10)]) (g := gName 10) (tt := tYes) rfl nd (pi_range1 rfl T.g_range (pa_cons (pv 4) pa_nil)) (bkJ (by decide +kernel)) (fun _ _ _ _ _ => pg_name (i := 10) nd rfl (Or.inl rfl)) (fun _ _ _ _ _ => pts_nil)
            (fun _ _ _ _ _ => pe_cn (ok_lOn T) (hr.mono (by decide)) pass0 (pa_cons (pv 1) (pa_cons (pv 10) pa_nil))))
          (pa_cons (pe_lg (own := [("_law_day", 10)]) (g := gName 10) (tt := tYes) rfl nd (pi_range1 rfl T.g_range (pa_cons (pv 4) pa_nil)) (bkJ (by decide +kernel)) (fun _ _ _ _ _ => pg_name (i := 10) nd rfl (Or.inl rfl)) (fun _ _ _ _ _ => pts_nil)
            (fun _ _ _ _ _ => pe_cn (ok_lOn T) (hr.mono (by decide)) pass0 (pa_cons (pv 3) (pa_cons (pv 10) pa_nil)))) pa_nil)))
          (pg_tup rfl (pgs_cons (pg_name (i := 5) nd rfl (Or.inr rfl)) (pgs_cons (pg_name (i := 6) nd rfl (Or.inr rfl)) pgs_nil))))
      (pss_cons (ps_set (i := 7) nd rfl (Or.inl rfl) (pe_lst (pa_cons (pe_lg (own := [("_law_day", 10)]) (g := gName 10) (tt := tYes) rfl nd (pi_list (pv 6)) (bkJ (by decide +kernel)) (fun _ _ _ _ _ => pg_name (i := 10) nd rfl (Or.inl rfl)) (fun _ _ _ _ _ => pts_nil)
            (fun _ _ _ _ _ => pe_cn (ok_lOn T) (hr.mono (by decide)) pass0 (pa_cons (pv 1) (pa_cons (pv 10) pa_nil))))
          (pa_cons (pe_lg (own := [("_law_day", 10)]) (g := gName 10) (tt := tYes) rfl nd (pi_range1 rfl T.g_range (pa_cons (pv 4) pa_nil)) (bkJ (by decide +kernel)) (fun _ _ _ _ _ => pg_name (i := 10) nd rfl (Or.inl rfl)) (fun _ _ _ _ _ => pts_nil)
            (fun _ _ _ _ _ => pe_callB (call_max2 rfl) (by rfl) T.g_max (by decide +kernel) (pa_cons (pe_ix (ixl (K := K)) (pv 5) (pv 10) (fun _ _ => rfl)) (pa_cons (pe_ix (ixl (K := K)) (pv 6) (pv 10) (fun _ _ => rfl)) pa_nil)))) pa_nil))))
      (pss_cons (ps_expr (pe_bm PySem.F.plainAttrs_list PySem.F.slot_list_append PySem.F.type_list_append mt_append (pv 7) (pa_cons (pe_lg (own := [("_law_day", 10)]) (g := gName 10) (tt := tYes) rfl nd (pi_range1 rfl T.g_range (pa_cons (pv 4) pa_nil)) (bkJ (by decide +kernel)) (fun _ _ _ _ _ => pg_name (i := 10) nd rfl (Or.inl rfl)) (fun _ _ _ _ _ => pts_nil)
            (fun _ _ _ _ _ => pe_callB (call_min2 rfl) (by rfl) T.g_min (by decide +kernel) (pa_cons (pe_ix (ixl (K := K)) (pv 5) (pv 10) (fun _ _ => rfl)) (pa_cons (pe_ix (ixl (K := K)) (pv 6) (pv 10) (fun _ _ => rfl)) pa_nil)))) pa_nil)))
      (pss_cons (ps_set (i := 8) nd rfl (Or.inl rfl) (pe_lst (pa_cons (pe_cn (ok_behind T).n hr passL (pa_cons (pv 0) (pa_cons (pv 2) pa_nil))) (pa_cons (pe_cn (ok_later T).n hr passL (pa_cons (pv 0) (pa_cons (pv 2) pa_nil))) (pa_cons (pe_cn (ok_sooner T).n hr passL (pa_cons (pv 0) (pa_cons (pv 2) pa_nil))) pa_nil)))))
      (pss_cons (ps_if (pt_cmpR op_ne (pe_callB (cr_repr hgd' hr.units) (by rfl) T.g_repr (by decide +kernel) (pa_cons (pe_lg (own := [("_law_one", 11)]) (g := gName 11) (tt := tYes) rfl nd (pi_list (pv 8)) (bkJ (by decide +kernel)) (fun _ _ _ _ _ => pg_name (i := 11) nd rfl (Or.inl rfl)) (fun _ _ _ _ _ => pts_nil)
            (fun _ _ _ _ _ => pe_cn (ok_told T) (hr.mono (by decide)) pass0 (pa_cons (pv 11) pa_nil))) pa_nil))
          (pe_callB (cr_repr hgd' hr.units) (by rfl) T.g_repr (by decide +kernel) (pa_cons (pe_lg (own := [("_law_one", 11)]) (g := gName 11) (tt := tYes) rfl nd (pi_list (pv 7)) (bkJ (by decide +kernel)) (fun _ _ _ _ _ => pg_name (i := 11) nd rfl (Or.inl rfl)) (fun _ _ _ _ _ => pts_nil)
            (fun _ _ _ _ _ => pe_lst (pa_cons pe_bl (pa_cons (pv 11) (pa_cons (pv 4) pa_nil))))) pa_nil)) (nomark _)) (pss_one (ps_ret pe_bl)) pss_nil)
      (pss_cons (ps_set (i := 9) nd rfl (Or.inl rfl) (pe_lst (pa_cons (pe_cs (ok_behind T) hr passL (pk_cons (pv 2) (pk_cons (pv 0) pk_nil))) (pa_cons (pe_cs (ok_later T) hr passL (pk_cons (pv 2) (pk_cons (pv 0) pk_nil))) pa_nil))))
      (pss_cons (ps_expr (pe_bm PySem.F.plainAttrs_list PySem.F.slot_list_append PySem.F.type_list_append mt_append (pv 9) (pa_cons (pe_cs (ok_sooner T) hr passL (pk_cons (pv 2) (pk_cons (pv 0) pk_nil))) pa_nil)))
      (pss_one (ps_ret (pe_cmpR op_eq (pe_callB (cr_repr hgd' hr.units) (by rfl) T.g_repr (by decide +kernel) (pa_cons (pe_lg (own := [("_law_one", 11)]) (g := gName 11) (tt := tYes) rfl nd (pi_list (pv 9)) (bkJ (by decide +kernel)) (fun _ _ _ _ _ => pg_name (i := 11) nd rfl (Or.inl rfl)) (fun _ _ _ _ _ => pts_nil)
            (fun _ _ _ _ _ => pe_cn (ok_told T) (hr.mono (by decide)) pass0 (pa_cons (pv 11) pa_nil))) pa_nil))
          (pe_callB (cr_repr hgd' hr.units) (by rfl) T.g_repr (by decide +kernel) (pa_cons (pe_lg (own := [("_law_one", 11)]) (g := gName 11) (tt := tYes) rfl nd (pi_list (pv 7)) (bkJ (by decide +kernel)) (fun _ _ _ _ _ => pg_name (i := 11) nd rfl (Or.inl rfl)) (fun _ _ _ _ _ => pts_nil)
            (fun _ _ _ _ _ => pe_lst (pa_cons pe_bl (pa_cons (pv 11) (pa_cons (pv 4) pa_nil))))) pa_nil)) (nomark _))))))))))), ?_⟩
    -- _law_length
    refine ⟨_, rfl, a, _, rfl, .inl (iL_seq ha), _, rfl, b, _, rfl, .inl (iL_seq hb), as.length, bs.length, (by rw [iL_len, iL_len]; rfl), a1, b1, by omega, by omega, ?_⟩
    generalize hn : Nat.lcm as.length bs.length = n at *
    have tn : ((n : Nat) : Int).toNat = n := Int.toNat_natCast _
    have fine := rows_fine (dss := three3 as bs n) (by show 3 ≤ 10; decide) (three_small OA OB hlcm)
    -- _law_some, _law_more
    refine ⟨_, rfl, _, rfl, by omega, by omega, lcR (fun i => V.int (On as (i : Int))) (by omega) (fun _ => rfl) (fun i hi H3 R s3 k => ?_) (fun D5 H5 n5 s5 h5 => ?_)⟩
    · exact ⟨_, rfl, _, rfl, a, as, _, rfl, s3 _ _ ha, a1, by omega, by omega, q_of (by rw [Int.zero_add]) (k _ (Same.refl _))⟩
    rw [tab_vals (On as), tn] at h5
    refine ⟨_, rfl, _, rfl, by omega, by omega, lcR (fun i => V.int (On bs (i : Int))) (by omega) (fun _ => rfl) (fun i hi H3 R s3 k => ?_) (fun D6 H6 n6 s6 h6 => ?_)⟩
    · exact ⟨_, rfl, _, rfl, b, bs, _, rfl, s3 _ _ (s5 _ _ hb), b1, by omega, by omega, q_of (by rw [Int.zero_add]) (k _ (Same.refl _))⟩
    rw [tab_vals (On bs), tn] at h6
    refine ⟨(by show 2 ≤ sizeLine; decide), fun t nt => ⟨t, _, rfl, .inl (.inl upd_same), rfl, _, _, rfl, _, _, rfl, rfl, ?_⟩⟩
    have s7 := same_new (o := .tup [.ref D5, .ref D6]) nt
    have s07 := (s5.trans s6).trans s7
    have g5 := s7 _ _ (s6 _ _ h5)
    have g6 := s7 _ _ h6
    generalize upd H6 t (.tup [.ref D5, .ref D6]) = H7 at *
    -- _law_due
    refine ⟨_, rfl, D6, rfl, ⟨_, iL_seq (ds := tabF (On bs) n) g6⟩, lcL (K := K) (a := D6) (xs := (tabF (On bs) n).map V.int) (onV as) (iL_seq (ds := tabF (On bs) n) g6) (by rw [iL_len, tabF_len]; omega) (fun _ => rfl) (fun i x hx H3 R s3 k => ?_) (fun e1 H8 ne1 s8 he1 => ?_)⟩
    · obtain ⟨rfl, hi⟩ := iL_get hx
      rw [tabF_len] at hi
      have near := on_near OB (i : Int)
      exact ⟨_, rfl, _, rfl, a, as, _, rfl, s3 _ _ (s07 _ _ ha), a1, by omega, by rw [tabF_getD hi]; omega, k _ (Same.refl _)⟩
    rw [map_onV] at he1
    refine ⟨_, rfl, _, rfl, by omega, by omega, lcR (fun i => V.int (fLater (On as) (On bs) (i : Int))) (by omega) (fun _ => rfl) (fun i hi H3 R s3 k => ?_) (fun e2 H9 ne2 s9 he2 => ?_)⟩
    · rw [tn] at hi
      exact ⟨_, rfl, _, rfl, D5, _, _, _, rfl, rfl, iL_seq (ds := tabF (On as) n) (s3 _ _ (s8 _ _ g5)), at_of (j := i) (Int.zero_add _) (iL_at (by rw [tabF_len]; exact hi)), _, rfl, _, rfl, D6, _, _, _, rfl, rfl, iL_seq (ds := tabF (On bs) n) (s3 _ _ (s8 _ _ g6)), at_of (j := i) (Int.zero_add _) (iL_at (by rw [tabF_len]; exact hi)), _, _, rfl,
        q_of (by rw [tabF_getD hi, tabF_getD hi]; exact congrArg V.int (max_as _ _).symm) (k _ (Same.refl _))⟩
    rw [tab_vals (fLater (On as) (On bs)), tn] at he2
    refine ⟨(by show 2 ≤ sizeLine; decide), fun u nu => ?_⟩
    have su := same_new (o := .lst [.ref e1, .ref e2]) nu
    have hu : upd H9 u (.lst [.ref e1, .ref e2]) u = some (.lst [.ref e1, .ref e2]) := upd_same
    have g1 := su _ _ (s9 _ _ he1)
    have g2 := su _ _ he2
    have nu1 : e1 ≠ u := ne_of_none (s9 _ _ he1) nu
    have nu2 : e2 ≠ u := ne_of_none he2 nu
    have s010 := ((s07.trans s8).trans s9).trans su
    have g5' := su _ _ (s9 _ _ (s8 _ _ g5))
    have g6' := su _ _ (s9 _ _ (s8 _ _ g6))
    have nu0 : H u = none := (((s07.trans s8).trans s9)).free nu
    generalize upd H9 u (.lst [.ref e1, .ref e2]) = H10 at *
    -- _law_due.append(..)
    refine ⟨_, rfl, .inl ⟨rfl, _, SqL.of hu⟩, _, rfl, _, rfl, by omega, by omega, lcR (fun i => V.int (fSooner (On as) (On bs) (i : Int))) (by omega) (fun _ => rfl) (fun i hi H3 R s3 k => ?_) (fun e3 H11 ne3 s11 he3 => ?_)⟩
    · rw [tn] at hi
      exact ⟨_, rfl, _, rfl, D5, _, _, _, rfl, rfl, iL_seq (ds := tabF (On as) n) (s3 _ _ g5'), at_of (j := i) (Int.zero_add _) (iL_at (by rw [tabF_len]; exact hi)), _, rfl, _, rfl, D6, _, _, _, rfl, rfl, iL_seq (ds := tabF (On bs) n) (s3 _ _ g6'), at_of (j := i) (Int.zero_add _) (iL_at (by rw [tabF_len]; exact hi)), _, _, rfl,
        q_of (by rw [tabF_getD hi, tabF_getD hi]; exact congrArg V.int (min_as _ _).symm) (k _ (Same.refl _))⟩
    rw [tab_vals (fSooner (On as) (On bs)), tn] at he3
    refine ⟨u, _, _, rfl, rfl, s11 _ _ hu, (by show 2 < sizeLine; decide), ?_⟩
    have nu3 : e3 ≠ u := (ne_of_none hu ne3).symm
    have s012 : Same H (upd H11 u (.lst ([.ref e1, .ref e2] ++ [.ref e3]))) := same_put nu0 (s010.trans s11)
    have w1 : upd H11 u (.lst ([.ref e1, .ref e2] ++ [.ref e3])) e1 = some (iL (tabF (fBehind (On as) (On bs)) n)) := by rw [upd_ne nu1]; exact s11 _ _ g1
    have w2 : upd H11 u (.lst ([.ref e1, .ref e2] ++ [.ref e3])) e2 = some (iL (tabF (fLater (On as) (On bs)) n)) := by rw [upd_ne nu2]; exact s11 _ _ g2
    have w3 : upd H11 u (.lst ([.ref e1, .ref e2] ++ [.ref e3])) e3 = some (iL (tabF (fSooner (On as) (On bs)) n)) := by rw [upd_ne nu3]; exact he3
    have wu : upd H11 u (.lst ([.ref e1, .ref e2] ++ [.ref e3])) u = some (.lst [.ref e1, .ref e2, .ref e3]) := upd_same
    generalize upd H11 u (.lst ([.ref e1, .ref e2] ++ [.ref e3])) = H12 at *
    -- _law_told_here
    refine ⟨_, rfl, _, rfl, as, bs, ⟨p, p2, M, M2, rfl, TA.same s012, TB.same s012, OA, OB⟩, fun _ t1 H13 m1 => ?_, fun h => absurd h (by omega)⟩
    have s013 := s012.trans m1.same
    refine ⟨_, rfl, _, rfl, as, bs, ⟨p, p2, M, M2, rfl, TA.same s013, TB.same s013, OA, OB⟩, fun _ t2 H14 m2 => ?_, fun h => absurd h (by omega)⟩
    have s014 := s013.trans m2.same
    refine ⟨_, rfl, _, rfl, as, bs, ⟨p, p2, M, M2, rfl, TA.same s014, TB.same s014, OA, OB⟩, fun _ t3 H15 m3 => ?_, fun h => absurd h (by omega)⟩
    refine ⟨(by show 3 ≤ sizeLine; decide), fun t8 n8 => ?_⟩
    have s16 := same_new (o := .lst [.ref t1, .ref t2, .ref t3]) n8
    have s016 := (s014.trans m3.same).trans s16
    have s1216 := ((m1.same.trans m2.same).trans m3.same).trans s16
    have h8 : upd H15 t8 (.lst [.ref t1, .ref t2, .ref t3]) t8 = some (.lst [.ref t1, .ref t2, .ref t3]) := upd_same
    rw [hn] at m1 m2 m3
    have T1 := m1.at.same ((m2.same.trans m3.same).trans s16)
    have T2 := m2.at.same (m3.same.trans s16)
    have T3 := m3.at.same s16
    generalize upd H15 t8 (.lst [.ref t1, .ref t2, .ref t3]) = H16 at *
    -- repr(..) != repr(..)
    refine ⟨_, rfl, t8, rfl, ⟨_, SqL.of h8⟩, lcTold (C := C) (dss := three3 as bs n) (SqL.of h8) rfl (by show 3 ≤ 1000; decide) (fun _ => rfl) (fun _ => rfl) (three_of ⟨t1, _, rfl, rfl, T1⟩ ⟨t2, _, rfl, rfl, T2⟩ ⟨t3, _, rfl, rfl, T3⟩) (fun y1 H17 ny1 s17 dp1 => ?_)⟩
    refine ⟨y1, _, rfl, dp1, fine.show_, fine.nodict, fine.depth, fine.size, ?_⟩
    have s1217 := s1216.trans s17
    refine ⟨_, rfl, u, rfl, ⟨_, SqL.of (s1217 _ _ wu)⟩, lcDue (n := n) (dss := three3 as bs n) (SqL.of (s1217 _ _ wu)) rfl (by show 3 ≤ 1000; decide) (fun _ => rfl) (fun _ => rfl) (fun _ => rfl)
      (three_of ⟨e1, _, rfl, rfl, s1217 _ _ w1, tabF_len _ _⟩ ⟨e2, _, rfl, rfl, s1217 _ _ w2, tabF_len _ _⟩ ⟨e3, _, rfl, rfl, s1217 _ _ w3, tabF_len _ _⟩) (fun y2 H18 ny2 s18 dp2 => ?_)⟩
    refine ⟨y2, _, rfl, dp2, fine.show_, fine.nodict, fine.depth, fine.size, rfl, _, rfl, iteND rfl ?_⟩
    have s018 := (s016.trans s17).trans s18
    have s1218 := s1217.trans s18
    -- _law_again
    refine ⟨_, rfl, _, rfl, _, _, rfl, as, bs, ⟨p, p2, M, M2, rfl, TA.same s018, TB.same s018, OA, OB⟩, fun _ q1 H19 k1 => ?_, fun h => absurd h (by omega)⟩
    have s019 := s018.trans k1.same
    refine ⟨_, rfl, _, rfl, _, _, rfl, as, bs, ⟨p, p2, M, M2, rfl, TA.same s019, TB.same s019, OA, OB⟩, fun _ q2 H20 k2 => ?_, fun h => absurd h (by omega)⟩
    refine ⟨(by show 2 ≤ sizeLine; decide), fun g ng => ?_⟩
    have sg := same_new (o := .lst [.ref q1, .ref q2]) ng
    have hg : upd H20 g (.lst [.ref q1, .ref q2]) g = some (.lst [.ref q1, .ref q2]) := upd_same
    have s020 := s019.trans k2.same
    have ng0 := s020.free ng
    have s021 := s020.trans sg
    rw [hn] at k1 k2
    have Q1 := (k1.at.same k2.same)
    have Q2 := k2.at
    have s1220 := (s1218.trans k1.same).trans k2.same
    have x1 := s1220 _ _ w1
    have x2 := s1220 _ _ w2
    have x3 := s1220 _ _ w3
    have xu := s1220 _ _ wu
    refine ⟨_, rfl, .inl ⟨rfl, _, SqL.of hg⟩, _, rfl, _, rfl, _, _, rfl, as, bs, ⟨p, p2, M, M2, rfl, TA.same s021, TB.same s021, OA, OB⟩, fun _ q3 H22 k3 => ?_, fun h => absurd h (by omega)⟩
    rw [hn] at k3
    refine ⟨g, _, _, rfl, rfl, k3.same _ _ hg, (by show 2 < sizeLine; decide), ?_⟩
    have bg : But g H20 (upd H22 g (.lst ([.ref q1, .ref q2] ++ [.ref q3]))) := fun c o e hc => by rw [upd_ne hc]; exact k3.same _ _ (sg _ _ e)
    have R1 := Q1.old ng bg
    have R2 := Q2.old ng bg
    have R3 : TabAt C (upd H22 g (.lst ([.ref q1, .ref q2] ++ [.ref q3]))) q3 _ := k3.put hg
    have s023 : Same H (upd H22 g (.lst ([.ref q1, .ref q2] ++ [.ref q3]))) := same_put ng0 (s021.trans k3.same)
    have y1' := bg _ _ x1 (ne_of_none x1 ng)
    have y2' := bg _ _ x2 (ne_of_none x2 ng)
    have y3' := bg _ _ x3 (ne_of_none x3 ng)
    have yu' := bg _ _ xu (ne_of_none xu ng)
    have yg : upd H22 g (.lst ([.ref q1, .ref q2] ++ [.ref q3])) g = some (.lst [.ref q1, .ref q2, .ref q3]) := upd_same
    generalize upd H22 g (.lst ([.ref q1, .ref q2] ++ [.ref q3])) = H23 at *
    -- return repr(..) == repr(..)
    refine ⟨_, rfl, g, rfl, ⟨_, SqL.of yg⟩, lcTold (C := C) (dss := three3 as bs n) (SqL.of yg) rfl (by show 3 ≤ 1000; decide) (fun _ => rfl) (fun _ => rfl) (three_of ⟨q1, _, rfl, rfl, R1⟩ ⟨q2, _, rfl, rfl, R2⟩ ⟨q3, _, rfl, rfl, R3⟩) (fun z1 H24 nz1 s24 dz1 => ?_)⟩
    refine ⟨z1, _, rfl, dz1, fine.show_, fine.nodict, fine.depth, fine.size, ?_⟩
    refine ⟨_, rfl, u, rfl, ⟨_, SqL.of (s24 _ _ yu')⟩, lcDue (n := n) (dss := three3 as bs n) (SqL.of (s24 _ _ yu')) rfl (by show 3 ≤ 1000; decide) (fun _ => rfl) (fun _ => rfl) (fun _ => rfl)
      (three_of ⟨e1, _, rfl, rfl, s24 _ _ y1', tabF_len _ _⟩ ⟨e2, _, rfl, rfl, s24 _ _ y2', tabF_len _ _⟩ ⟨e3, _, rfl, rfl, s24 _ _ y3', tabF_len _ _⟩) (fun z2 H25 nz2 s25 dz2 => ?_)⟩
    exact ⟨z2, _, rfl, dz2, fine.show_, fine.nodict, fine.depth, fine.size, rfl, q_of (vb_true rfl) (q _ ((s023.trans s24).trans s25))⟩
end
end K13
set_option Elab.async false
set_option linter.all false
set_option maxRecDepth 100000
set_option maxHeartbeats 8000000
namespace K13
open PySem PySem.Spec PyProof.Rows L2
/-! ### places and the first of them -/
theorem filter_head {p : Nat → Bool} : ∀ {n x : Nat} {r : List Nat}, (List.range n).filter p = x :: r → p x = true ∧ x < n ∧ ∀ j, j < x → p j = false
  | 0, x, r, h => by simp at h
  | n + 1, x, r, h => by
    rw [List.range_succ, List.filter_append] at h
    cases e : (List.range n).filter p with
    | nil =>
      rw [e] at h
      cases hp : p n with
      | true =>
        simp [hp] at h
        obtain ⟨rfl, _⟩ := h
        refine ⟨hp, by omega, fun j hj => ?_⟩
        cases hq : p j with
        | false => rfl
        | true =>
          have : j ∈ (List.range n).filter p := List.mem_filter.mpr ⟨List.mem_range.mpr hj, hq⟩
          rw [e] at this
          cases this
      | false => simp [hp] at h
    | cons y s =>
      rw [e] at h
      cases h
      obtain ⟨a, b, c⟩ := filter_head e
      exact ⟨a, by omega, c⟩
def places (p : Nat → Bool) (n : Nat) : List Int := ((List.range n).filter p).map fun i : Nat => (i : Int)
theorem places_first {pr : Int → Bool} {f : Int → Int} {n : Nat} :
    (places (fun i : Nat => pr (f (i : Int))) n = [] → firstAt pr 0 (tabF f n) = none) ∧ (∀ z r, places (fun i : Nat => pr (f (i : Int))) n = z :: r → optV (firstAt pr 0 (tabF f n)) = .int z) := by
  unfold places
  constructor
  · intro h
    have h2 := List.map_eq_nil_iff.mp h
    refine firstAt_end fun j y hy => ?_
    have hj : j < n := by
      have := (List.getElem?_eq_some_iff.mp hy).1
      rw [tabF_len] at this
      exact this
    rw [tabF_at hj] at hy
    cases hy
    cases hq : pr (f (j : Int)) with
    | false => rfl
    | true =>
      have : j ∈ (List.range n).filter (fun i : Nat => pr (f (i : Int))) := List.mem_filter.mpr ⟨List.mem_range.mpr hj, hq⟩
      rw [h2] at this
      cases this
  · intro z r h
    cases e : (List.range n).filter (fun i : Nat => pr (f (i : Int))) with
    | nil => rw [e] at h; cases h
    | cons x s =>
      rw [e] at h
      cases h
      obtain ⟨a, b, c⟩ := filter_head e
      rw [firstAt_skip (i := x) (fun j hj y hy => ?_) (tabF_at b) a]
      · show V.int ((0 + x : Nat) : Int) = V.int ((x : Nat) : Int)
        rw [Nat.zero_add]
      · rw [tabF_at (by omega)] at hy
        cases hy
        exact c j hj
theorem places_lt {p : Nat → Bool} {n : Nat} : (places p n).length ≤ n := by
  unfold places
  rw [List.length_map]
  exact Nat.le_trans (List.length_filter_le _ _) (by rw [List.length_range]; exact Nat.le_refl _)
theorem firstAt_lt {pr : Int → Bool} : ∀ {xs : List Int} {k i : Nat}, firstAt pr k xs = some i → i < k + xs.length
  | [], _, _, h => nomatch h
  | x :: xs, k, i, h => by
    unfold firstAt at h
    rw [List.length_cons]
    split at h
    · cases h
      omega
    · have := firstAt_lt h
      omega
theorem same_iff {M M2 : Int} {as bs : List Int} (OA : OkT M as) (OB : OkT M2 bs) : (∀ x, On as x = On bs x) ↔ optV (firstAt prNe 0 (gaps as bs)) = .non := by
  have r1 := OA.to_lcm OB.tab.pos
  have r2 := OB.to_lcm2 OA.tab.pos
  have key : optV (firstAt prNe 0 (gaps as bs)) = .non ↔ firstAt prNe 0 (gaps as bs) = none := by
    cases firstAt prNe 0 (gaps as bs) with
    | none => exact ⟨fun _ => rfl, fun _ => rfl⟩
    | some k => exact ⟨fun h => (nomatch h), fun h => (nomatch h)⟩
  rw [key, firstAt_none]
  constructor
  · intro h x hx
    obtain ⟨i, hi, rfl⟩ := tabF_mem hx
    unfold fGap prNe
    rw [h]
    exact decide_eq_false (by omega)
  · intro h
    refine same_on r1.n1 r1.per r2.per fun i hi => ?_
    have h2 := h (fGap (On as) (On bs) (i : Int)) (List.mem_of_getElem? (tabF_at hi))
    unfold fGap prNe at h2
    have h3 := of_decide_eq_false h2
    omega
/-! ### data of three -/
def optD : Option Nat → PyData
  | none => .none
  | some k => .int (k : Int)
theorem dp_opt {K : PySem.W.Frag} {H : Hp} : ∀ o : Option Nat, Dp K H (optV o) (optD o)
  | none => .non
  | some k => .int _
def threeD (o1 : Option Nat) (m : Int) (o2 : Option Nat) : PyData := .list [optD o1, .int m, optD o2]
theorem dp_three {K : PySem.W.Frag} {H : Hp} {a : Addr} {o1 o2 : Option Nat} {m : Int} (h : H a = some (.lst [optV o1, .int m, optV o2])) : Dp K H (.ref a) (threeD o1 m o2) :=
  .lst (SqL.of h) (.cons (dp_opt _) (.cons (.int _) (.cons (dp_opt _) .nil)))
structure FineO (d : PyData) : Prop where
  show_ : d.showable = true
  nodict : d.hasDict = false
  depth : d.depth = 0
  short : d.leavesShort 13 = true
  weight : d.weight ≤ 63
theorem fine_int {m : Int} (h : m.natAbs < 10 ^ 12) : FineO (.int m) := by
  have h2 : m.natAbs < 2 ^ 64 := Nat.lt_of_lt_of_le h (by decide)
  have h3 := PySem.W.mg_log (k := 63) h2
  exact ⟨by simp only [PyData.showable]; exact decide_eq_true (by omega), by simp only [PyData.hasDict], by simp only [PyData.depth], by simp only [PyData.leavesShort]; exact decide_eq_true (PyData.shown_int_le h), weight_int h⟩
theorem fine_opt {o : Option Nat} (h : ∀ k, o = some k → k < 10 ^ 12) : FineO (optD o) := by
  cases o with
  | none => exact ⟨by simp only [optD, PyData.showable], by simp only [optD, PyData.hasDict], by simp only [optD, PyData.depth], by simp only [optD, PyData.leavesShort], by simp only [optD, PyData.weight]; decide⟩
  | some k => exact fine_int (by have := h k rfl; omega)
theorem three_fine {o1 o2 : Option Nat} {m : Int} (h1 : ∀ k, o1 = some k → k < 10 ^ 12) (h2 : ∀ k, o2 = some k → k < 10 ^ 12) (hm : m.natAbs < 10 ^ 12) : Fine (threeD o1 m o2) := by
  have a := fine_opt h1
  have b := fine_opt h2
  have c := fine_int hm
  unfold threeD
  refine ⟨?_, ?_, ?_, PyData.shown_fits (B := 13) (by decide) (by decide) ?_ ?_⟩
  · simp only [PyData.showable, PyData.showableAll] at a b c ⊢
    rw [a.show_, b.show_]
    have := c.show_
    simp only [PyData.showable] at this
    rw [this]
    rfl
  · simp only [PyData.hasDict, PyData.hasDictAll, a.nodict, b.nodict, Bool.or_self]
  · simp only [PyData.depth, PyData.depthAll, a.depth, b.depth]
    decide
  · have := c.short
    simp only [PyData.leavesShort] at this
    simp only [PyData.leavesShort, PyData.leavesShortAll, a.short, b.short, this, Bool.and_self]
  · have h1 := a.weight
    have h2 := b.weight
    have h3 := c.weight
    simp only [PyData.weight, PyData.weightAll] at h1 h2 h3 ⊢
    omega
end K13
set_option Elab.async false
set_option linter.all false
set_option maxRecDepth 100000
set_option maxHeartbeats 8000000
namespace K13
open PySem PySem.Spec PyProof.Rows L2
abbrev nH : List Str := ["_law_table", "_law_days_here", "_law_other_table", "_law_others", "_law_length", "_law_gaps", "_law_above", "_law_apart", "_law_due", "_law_told_here", "_law_again", "_law_day"]
theorem bkH {scope : Scope} {own : List (Str × Nat)} (h : blkC nH (defScope s_heldRight) scope own = true) : BlkOk nH (defScope s_heldRight) scope own := blkOk_by h
theorem ne_nil_eqv (as : List Int) : (!PyData.eqv (dI as) (dI [])) = true ↔ as ≠ [] := by
  rw [eqv_dI]
  simp
/-- xs[0] if xs != [] else None, read where the places are known -/
theorem head_read {K : PySem.W.Frag} {σ : L2.St} {H : Hp} {Q : VK} {j : Nat} {D : Addr} {pr : Int → Bool} {f : Int → Int} {n : Nat} (hσ : σ[j]? = some (some (.ref D))) (hD : H D = some (iL (places (fun i : Nat => pr (f (i : Int))) n))) (h : Q (optV (firstAt pr 0 (tabF f n))) H) :
    if (!PyData.eqv (dI (places (fun i : Nat => pr (f (i : Int))) n)) (dI [])) = true then tOp (rIxL K) (tVar j) (tC (.int 0)) σ H Q else tC .non σ H Q := by
  obtain ⟨h1, h2⟩ := places_first (pr := pr) (f := f) (n := n)
  cases e : places (fun i : Nat => pr (f (i : Int))) n with
  | nil =>
    rw [if_neg (fun z => (ne_nil_eqv []).mp z rfl)]
    rw [h1 e] at h
    exact h
  | cons z r =>
    rw [if_pos ((ne_nil_eqv (z :: r)).mpr (fun q => nomatch q))]
    rw [h2 z r e] at h
    rw [e] at hD
    exact ⟨_, hσ, D, _, _, _, rfl, rfl, iL_seq hD, at_of (j := 0) rfl rfl, h⟩
section
variable {P : Program} {w : World} {K : PySem.W.Frag} {mg : Str → Option Value} {base : Heap} {C B L fB : Addr}
theorem ok_held (T : Txt K mg C B L fB) : OkG P w K mg base "_law_held_right" 8 ["_law_table", "_law_days_here", "_law_other_table", "_law_others"] (spRight C) := by
  refine T.d_heldRight.okG fun f fd F => F.okG c_heldRight (fun vs H Q E h => ?_) (fun cdv A outer s H vs Q E hgd hr h => ?_)
  · obtain ⟨as, bs, ⟨p, a, p2, b, M, M2, rfl, _⟩, _⟩ := h
    rfl
  · obtain ⟨as, bs, ⟨p, a, p2, b, M, M2, rfl, TA, ha, TB, hb, OA, OB, hlcm⟩, q⟩ := h
    have nd := c_heldRight.nd
    have a1 := OA.tab.pos
    have a2 := OA.tab.most
    have b1 := OB.tab.pos
    have b2 := OB.tab.most
    have l1 := lcm_pos1 a1 b1
    have hgd' : (A.deeper (envOfC "_law_held_right" (defScope s_heldRight) s.heap.objs.size f cdv)).guards = some [] := hgd
    refine ⟨_, pss_cons (ps_set (i := 4) nd rfl (Or.inl rfl) (pe_cn (ok_lCommon T) (hr.mono (by decide)) pass0 (pa_cons (pe_callB call_len_seq (by rfl) T.g_len PySem.boot_len (pa_cons (pv 1) pa_nil)) (pa_cons (pe_callB call_len_seq (by rfl) T.g_len PySem.boot_len (pa_cons (pv 3) pa_nil)) pa_nil))))
      (pss_cons (ps_set (i := 5) nd rfl (Or.inr rfl) (pe_lg (own := [("_law_day", 11)]) (g := gName 11) (tt := tYes) rfl nd (pi_range1 rfl T.g_range (pa_cons (pv 4) pa_nil)) (bkH (by decide +kernel)) (fun _ _ _ _ _ => pg_name (i := 11) nd rfl (Or.inl rfl)) (fun _ _ _ _ _ => pts_nil)
          (fun _ _ _ _ _ => pe_op op_sub (pe_cn (ok_lOn T) (hr.mono (by decide)) pass0 (pa_cons (pv 1) (pa_cons (pv 11) pa_nil))) (pe_cn (ok_lOn T) (hr.mono (by decide)) pass0 (pa_cons (pv 3) (pa_cons (pv 11) pa_nil))))))
      (pss_cons (ps_par (i := 6) (j := 7) rfl nd rfl rfl (by decide) rfl rfl (pa_cons (pe_lg (own := [("_law_day", 11)]) (g := gName 11) rfl nd (pi_range1 rfl T.g_range (pa_cons (pv 4) pa_nil)) (bkH (by decide +kernel)) (fun _ _ _ _ _ => pg_name (i := 11) nd rfl (Or.inl rfl))
            (fun _ _ _ _ _ => pts_one (pt_cmpR op_gt (pe_ix (ixl (K := K)) (pv 5) (pv 11) (fun _ _ => rfl)) pe_int (nomark _))) (fun _ _ _ _ _ => pv 11))
          (pa_cons (pe_lg (own := [("_law_day", 11)]) (g := gName 11) rfl nd (pi_range1 rfl T.g_range (pa_cons (pv 4) pa_nil)) (bkH (by decide +kernel)) (fun _ _ _ _ _ => pg_name (i := 11) nd rfl (Or.inl rfl))
            (fun _ _ _ _ _ => pts_one (pt_cmpR op_ne (pe_ix (ixl (K := K)) (pv 5) (pv 11) (fun _ _ => rfl)) pe_int (nomark _))) (fun _ _ _ _ _ => pv 11)) pa_nil)) (by rfl))
      (pss_cons (ps_set (i := 8) nd rfl (Or.inl rfl) (pe_lst (pa_cons (pe_ifExp (pt_cmpR (op_neD hr.units) (pv 6) (pe_lst pa_nil) (nomark _)) (pe_ix ix_list (pv 6) pe_int (fun _ _ => rfl)) pe_non)
          (pa_cons (pe_callB (cr_max rfl) (by rfl) T.g_max (by decide +kernel) (pa_cons (pv 5) pa_nil))
          (pa_cons (pe_ifExp (pt_cmpR (op_neD hr.units) (pv 7) (pe_lst pa_nil) (nomark _)) (pe_ix ix_list (pv 7) pe_int (fun _ _ => rfl)) pe_non) pa_nil)))))
      (pss_cons (ps_set (i := 9) nd rfl (Or.inl rfl) (pe_lst (pa_cons (pe_cn (ok_firstAbove T).n (hr.mono (by decide)) passL (pa_cons (pv 0) (pa_cons (pv 2) pa_nil))) (pa_cons (pe_cn (ok_mostAbove T).n (hr.mono (by decide)) passL (pa_cons (pv 0) (pa_cons (pv 2) pa_nil))) (pa_cons (pe_cn (ok_firstParting T).n (hr.mono (by decide)) passL (pa_cons (pv 0) (pa_cons (pv 2) pa_nil))) pa_nil)))))
      (pss_cons (ps_if (pt_cmpR op_ne (pe_callB (cr_repr hgd' hr.units) (by rfl) T.g_repr (by decide +kernel) (pa_cons (pv 9) pa_nil)) (pe_callB (cr_repr hgd' hr.units) (by rfl) T.g_repr (by decide +kernel) (pa_cons (pv 8) pa_nil)) (nomark _)) (pss_one (ps_ret pe_bl)) pss_nil)
      (pss_cons (ps_set (i := 10) nd rfl (Or.inl rfl) (pe_lst (pa_cons (pe_cs (ok_firstAbove T) (hr.mono (by decide)) passL (pk_cons (pv 2) (pk_cons (pv 0) pk_nil))) (pa_cons (pe_cs (ok_mostAbove T) (hr.mono (by decide)) passL (pk_cons (pv 2) (pk_cons (pv 0) pk_nil))) pa_nil))))
      (pss_cons (ps_expr (pe_bm PySem.F.plainAttrs_list PySem.F.slot_list_append PySem.F.type_list_append mt_append (pv 10) (pa_cons (pe_cs (ok_firstParting T) (hr.mono (by decide)) passL (pk_cons (pv 2) (pk_cons (pv 0) pk_nil))) pa_nil)))
      (pss_one (ps_ret (pe_and (pe_cmpR op_eq (pe_callB (cr_repr hgd' hr.units) (by rfl) T.g_repr (by decide +kernel) (pa_cons (pv 10) pa_nil)) (pe_callB (cr_repr hgd' hr.units) (by rfl) T.g_repr (by decide +kernel) (pa_cons (pv 8) pa_nil)) (nomark _))
          (pe_one (pe_cmpR op_eq (pe_mn T.cl (ok_isSame T) hr pass0 (pv 0) (pa_cons (pv 2) pa_nil)) (pe_cmpR op_isN (pe_ix ix_list (pv 8) pe_int (fun _ _ => rfl)) pe_non (nomark _)) (nomark _))))))))))))), ?_⟩
    -- _law_length
    refine ⟨_, rfl, a, _, rfl, .inl (iL_seq ha), _, rfl, b, _, rfl, .inl (iL_seq hb), as.length, bs.length, (by rw [iL_len, iL_len]; rfl), a1, b1, by omega, by omega, ?_⟩
    obtain ⟨gs, hgs⟩ : ∃ gs, gs = gaps as bs := ⟨_, rfl⟩
    have hgs' := hgs
    unfold gaps at hgs'
    generalize hn : Nat.lcm as.length bs.length = n at *
    have tn : ((n : Nat) : Int).toNat = n := Int.toNat_natCast _
    have gl : gs.length = n := by rw [hgs', tabF_len]
    have bd : ∀ m ∈ gs, m.natAbs < 10 ^ 12 := fun m hm => by
      rw [hgs'] at hm
      obtain ⟨i, hi, rfl⟩ := tabF_mem hm
      have x1 := on_near OA (i : Int)
      have x2 := on_near OB (i : Int)
      unfold fGap
      omega
    have bf : ∀ (pr : Int → Bool) k, firstAt pr 0 gs = some k → k < 10 ^ 12 := fun pr k hk => by
      have := firstAt_lt hk
      omega
    -- _law_gaps
    refine ⟨_, rfl, _, rfl, by omega, by omega, lcR (fun i => V.int (fGap (On as) (On bs) (i : Int))) (by omega) (fun _ => rfl) (fun i hi H3 R s3 k => ?_) (fun D5 H5 n5 s5 h5 => ?_)⟩
    · exact ⟨_, rfl, _, rfl, a, as, _, rfl, s3 _ _ ha, a1, by omega, by omega, _, rfl, _, rfl, b, bs, _, rfl, s3 _ _ hb, b1, by omega, by omega, _, _, rfl, rfl, q_of (by rw [Int.zero_add]; rfl) (k _ (Same.refl _))⟩
    rw [tab_vals (fGap (On as) (On bs)), tn, ← hgs'] at h5
    have h5 : H5 D5 = some (iL gs) := h5
    have at5 : ∀ i : Nat, i < n → (gs.map V.int)[i]? = some (.int (fGap (On as) (On bs) (i : Int))) := fun i hi => by
      rw [hgs', List.getElem?_map, tabF_at hi]
      rfl
    -- _law_above, _law_apart
    refine ⟨_, rfl, _, rfl, by omega, by omega, lcRF (fun i : Nat => prPos (fGap (On as) (On bs) (i : Int))) (by omega) (fun _ => rfl) (fun _ => rfl) (fun i hi H3 R s3 k => ?_) (fun D6 H6 n6 s6 h6 => ?_)⟩
    · rw [tn] at hi
      exact ⟨_, rfl, _, rfl, D5, _, _, _, rfl, rfl, iL_seq (ds := gs) (s3 _ _ h5), at_of (j := i) (Int.zero_add _) (at5 i hi), _, _, rfl, rfl, _, rfl, k _ (Same.refl _)⟩
    refine ⟨_, rfl, _, rfl, by omega, by omega, lcRF (fun i : Nat => prNe (fGap (On as) (On bs) (i : Int))) (by omega) (fun _ => rfl) (fun _ => rfl) (fun i hi H3 R s3 k => ?_) (fun D7 H7 n7 s7 h7 => ?_)⟩
    · rw [tn] at hi
      refine ⟨_, rfl, _, rfl, D5, _, _, _, rfl, rfl, iL_seq (ds := gs) (s3 _ _ (s6 _ _ h5)), at_of (j := i) (Int.zero_add _) (at5 i hi), rfl, _, rfl, ?_⟩
      have e : (!decide (V.int (fGap (On as) (On bs) (i : Int)) = V.int 0)) = prNe (fGap (On as) (On bs) (i : Int)) := by
        unfold prNe
        rw [dec_int]
        by_cases hz : fGap (On as) (On bs) (i : Int) = 0
        · rw [hz]
          rfl
        · rw [decide_eq_true hz, show (fGap (On as) (On bs) (i : Int) == 0) = false from by simpa using hz]
          rfl
      rw [e]
      exact k _ (Same.refl _)
    refine ⟨_, _, rfl, ?_⟩
    have zi : ∀ p : Nat → Bool, ((List.range n).filter p).map (fun i : Nat => V.int (0 + (i : Int))) = (places p n).map V.int := fun p => by
      unfold places
      rw [List.map_map]
      refine List.map_congr_left fun i _ => ?_
      show V.int (0 + (i : Int)) = V.int (i : Int)
      rw [Int.zero_add]
    rw [tn, zi] at h6 h7
    have h6 : H7 D6 = some (iL (places (fun i : Nat => prPos (fGap (On as) (On bs) (i : Int))) n)) := s7 _ _ h6
    have h7 : H7 D7 = some (iL (places (fun i : Nat => prNe (fGap (On as) (On bs) (i : Int))) n)) := h7
    have h5' : H7 D5 = some (iL gs) := s7 _ _ (s6 _ _ h5)
    have s07 := (s5.trans s6).trans s7
    -- _law_due
    refine ⟨_, rfl, Nat.zero_le _, fun z nz => ⟨_, _, dp_ints (same_new nz _ _ h6), dp_ints (ds := []) upd_same, shaped_dI _, shaped_dI _, _, rfl, head_read (pr := prPos) (f := fGap (On as) (On bs)) (n := n) (j := 6) rfl (same_new nz _ _ h6) ?_⟩⟩
    have sz := same_new (o := .lst []) nz
    refine ⟨_, rfl, D5, gs, rfl, iL_seq (sz _ _ h5'), by omega, fun m hm hmax => ?_⟩
    refine ⟨_, rfl, Nat.zero_le _, fun z2 nz2 => ⟨_, _, dp_ints (same_new nz2 _ _ (sz _ _ h7)), dp_ints (ds := []) upd_same, shaped_dI _, shaped_dI _, _, rfl, head_read (pr := prNe) (f := fGap (On as) (On bs)) (n := n) (j := 7) rfl (same_new nz2 _ _ (sz _ _ h7)) ?_⟩⟩
    have sz2 := same_new (o := .lst []) nz2
    rw [← hgs']
    refine ⟨(by show 3 ≤ sizeLine; decide), fun u nu => ?_⟩
    have su := same_new (o := .lst [optV (firstAt prPos 0 gs), .int m, optV (firstAt prNe 0 gs)]) nu
    have hu : upd _ u (.lst [optV (firstAt prPos 0 gs), .int m, optV (firstAt prNe 0 gs)]) u = some (.lst [optV (firstAt prPos 0 gs), .int m, optV (firstAt prNe 0 gs)]) := upd_same (H := upd (upd H7 z (.lst [])) z2 (.lst []))
    have s08 := ((s07.trans sz).trans sz2).trans su
    generalize upd (upd (upd H7 z (.lst [])) z2 (.lst [])) u (.lst [optV (firstAt prPos 0 gs), .int m, optV (firstAt prNe 0 gs)]) = H8 at *
    have fine := three_fine (bf prPos) (bf prNe) (bd m hm)
    -- _law_told_here
    refine ⟨_, rfl, _, rfl, as, bs, ⟨p, p2, M, M2, rfl, TA.same s08, TB.same s08, OA, OB⟩, fun _ H9 s9 => ?_, fun h => absurd h (by omega)⟩
    have s09 := s08.trans s9
    refine ⟨_, rfl, _, rfl, as, bs, ⟨p, p2, M, M2, rfl, TA.same s09, TB.same s09, OA, OB⟩, fun _ m2 H10 s10 hm2 hmax2 => ?_, fun h => absurd h (by omega)⟩
    have s010 := s09.trans s10
    refine ⟨_, rfl, _, rfl, as, bs, ⟨p, p2, M, M2, rfl, TA.same s010, TB.same s010, OA, OB⟩, fun _ H11 s11 => ?_, fun h => absurd h (by omega)⟩
    rw [← hgs] at hm2 hmax2 ⊢
    have em : m2 = m := max_one hm2 hmax2 hm hmax
    subst em
    refine ⟨(by show 3 ≤ sizeLine; decide), fun t nt => ?_⟩
    have st := same_new (o := .lst [optV (firstAt prPos 0 gs), .int m2, optV (firstAt prNe 0 gs)]) nt
    have s8t := ((s9.trans s10).trans s11).trans st
    have s0t := s08.trans s8t
    -- repr(..) != repr(..)
    refine ⟨_, rfl, t, _, rfl, dp_three upd_same, fine.show_, fine.nodict, fine.depth, fine.size, _, rfl, u, _, rfl, dp_three (s8t _ _ hu), fine.show_, fine.nodict, fine.depth, fine.size, rfl, _, rfl, iteND rfl ?_⟩
    generalize upd H11 t (.lst [optV (firstAt prPos 0 gs), .int m2, optV (firstAt prNe 0 gs)]) = H12 at *
    -- _law_again
    refine ⟨_, rfl, _, rfl, _, _, rfl, as, bs, ⟨p, p2, M, M2, rfl, TA.same s0t, TB.same s0t, OA, OB⟩, fun _ H13 s13 => ?_, fun h => absurd h (by omega)⟩
    have s013 := s0t.trans s13
    refine ⟨_, rfl, _, rfl, _, _, rfl, as, bs, ⟨p, p2, M, M2, rfl, TA.same s013, TB.same s013, OA, OB⟩, fun _ m3 H14 s14 hm3 hmax3 => ?_, fun h => absurd h (by omega)⟩
    rw [← hgs] at hm3 hmax3 ⊢
    have em : m3 = m2 := max_one hm3 hmax3 hm2 hmax2
    subst em
    have s014 := s013.trans s14
    refine ⟨(by show 2 ≤ sizeLine; decide), fun g ng => ?_⟩
    have sg := same_new (o := .lst [optV (firstAt prPos 0 gs), .int m3]) ng
    have s015 := s014.trans sg
    have hg : upd H14 g (.lst [optV (firstAt prPos 0 gs), .int m3]) g = some (.lst [optV (firstAt prPos 0 gs), .int m3]) := upd_same
    refine ⟨_, rfl, .inl ⟨rfl, _, SqL.of hg⟩, _, rfl, _, rfl, _, _, rfl, as, bs, ⟨p, p2, M, M2, rfl, TA.same s015, TB.same s015, OA, OB⟩, fun _ H16 s16 => ?_, fun h => absurd h (by omega)⟩
    rw [← hgs]
    refine ⟨g, _, _, rfl, rfl, s16 _ _ hg, (by show 2 < sizeLine; decide), ?_⟩
    have ng0 := s014.free ng
    have s017 : Same H (upd H16 g (.lst ([optV (firstAt prPos 0 gs), .int m3] ++ [optV (firstAt prNe 0 gs)]))) := same_put ng0 (s015.trans s16)
    have hu14 := (s8t.trans (s13.trans s14)) _ _ hu
    have hu17 : upd H16 g (.lst ([optV (firstAt prPos 0 gs), .int m3] ++ [optV (firstAt prNe 0 gs)])) u = some (.lst [optV (firstAt prPos 0 gs), .int m3, optV (firstAt prNe 0 gs)]) := by
      rw [upd_ne (ne_of_none hu14 ng)]
      exact s16 _ _ (sg _ _ hu14)
    have hg17 : upd H16 g (.lst ([optV (firstAt prPos 0 gs), .int m3] ++ [optV (firstAt prNe 0 gs)])) g = some (.lst [optV (firstAt prPos 0 gs), .int m3, optV (firstAt prNe 0 gs)]) := upd_same
    generalize upd H16 g (.lst ([optV (firstAt prPos 0 gs), .int m3] ++ [optV (firstAt prNe 0 gs)])) = H17 at *
    -- return ..
    refine ⟨_, rfl, g, _, rfl, dp_three hg17, fine.show_, fine.nodict, fine.depth, fine.size, _, rfl, u, _, rfl, dp_three hu17, fine.show_, fine.nodict, fine.depth, fine.size, rfl, _, rfl, iteD rfl ?_⟩
    obtain ⟨la, ⟨dxa, hpa⟩, hla⟩ := TA.same s017
    refine ⟨_, rfl, p, dxa, _, rfl, hpa, tf_no _ _ (by decide +kernel) (by decide +kernel), _, rfl, p, p2, as, bs, M, M2, rfl, TA.same s017, TB.same s017, OA, OB, fun H18 r s18 hr2 => ?_⟩
    refine ⟨_, rfl, u, _, _, _, rfl, rfl, SqL.of (s18 _ _ hu17), at_of (j := 2) rfl rfl, rfl, rfl, q_of (vb_true ?_) (q _ (s017.trans s18))⟩
    have si := same_iff OA OB
    rw [← hgs] at si
    congr 1
    rw [Bool.eq_iff_iff, decide_eq_true_eq]
    exact hr2.trans si
end
end K13
set_option Elab.async false
set_option linter.all false
set_option maxRecDepth 100000
set_option maxHeartbeats 8000000
namespace K13
open PySem PySem.Spec PyProof.Rows L2
theorem on_tabF {M : Int} {n : Nat} {F : Int → Int} (r : Rule M n F) : On (tabF F n) = F := funext fun x => on_tab r.n1 r.per x
theorem okTab {M : Int} {n : Nat} {F : Int → Int} (r : Rule M n F) (hn : n ≤ 600) (hM : M ≤ 1000000) : OkT M (tabF F n) := by
  refine ⟨tab_ok r.n1 hn r.mono r.per, ?_, hM⟩
  rw [tabF_len, on_tabF r]
  exact r
theorem Rule.wk {M M' : Int} {n : Nat} {F : Int → Int} (r : Rule M n F) (h : M ≤ M') : Rule M' n F := ⟨r.n1, r.mono, r.per, fun x => by have := r.lead x; omega⟩
theorem OkT.wk {M M' : Int} {ds : List Int} (h : OkT M ds) (h1 : M ≤ M') (h2 : M' ≤ 1000000) : OkT M' ds := ⟨h.tab, h.rule.wk h1, h2⟩
theorem recv {C : Addr} {H1 : Hp} {a : Addr} {ds : List Int} {m : Str} {R : Prop} (h : TabAt C H1 a ds) (h1 : ¬ m = "own_length") (h2 : ¬ m = "own_days") (k : R) :
    ∃ (a' dx : Addr) (fs : List (Str × V)), V.ref a = .ref a' ∧ H1 a' = some (.ins C dx fs) ∧ fs.lookup m = none ∧ R := by
  obtain ⟨l, ⟨dx, hp⟩, hl⟩ := h
  exact ⟨a, dx, _, rfl, hp, tf_no _ _ h1 h2, k⟩
theorem none_above {as bs : List Int} (h : ∀ x, On as x ≤ On bs x) : optV (firstAt prPos 0 (gaps as bs)) = .non := by
  rw [firstAt_none.mpr fun x hx => ?_]
  · rfl
  · obtain ⟨i, hi, rfl⟩ := tabF_mem hx
    unfold fGap prPos
    have := h (i : Int)
    exact decide_eq_false (by omega)
theorem lcm_right {a n : Nat} (h : a ∣ n) (hn : 1 ≤ n) : Nat.lcm a n ≤ n := Nat.le_of_dvd hn (Nat.lcm_dvd h (Nat.dvd_refl n))
theorem lcm_left {a n : Nat} (h : a ∣ n) (hn : 1 ≤ n) : Nat.lcm n a ≤ n := Nat.le_of_dvd hn (Nat.lcm_dvd (Nat.dvd_refl n) h)
section
variable {P : Program} {w : World} {K : PySem.W.Frag} {mg : Str → Option Value} {base : Heap} {C B L fB : Addr}
/-! ### _law_back_right -/
def spBack (C : Addr) : Sp := fun vs H Q _ => ∃ (p p2 : Addr) (as bs : List Int) (M : Int), vs = [.ref p, .ref p2] ∧ TabAt C H p as ∧ TabAt C H p2 bs ∧ OkT M as ∧ OkT M bs ∧ M + M ≤ 1000000 ∧ Nat.lcm as.length bs.length ≤ 600 ∧ ∀ H', Same H H' → Q (.bl true) H'
theorem ok_back (T : Txt K mg C B L fB) : OkN P w K mg base "_law_back_right" CX0 8 ["_law_table", "_law_other_table"] (spBack C) := by
  refine T.d_backRight.ok fun f fd F => F.ok c_backRight (fun vs H Q E h => ?_) (fun cdv A outer s H vs Q E hr h => ?_)
  · obtain ⟨p, p2, as, bs, M, rfl, _⟩ := h
    rfl
  · obtain ⟨p, p2, as, bs, M, rfl, TA, TB, OA, OB, hM, hlcm, q⟩ := h
    have nd := c_backRight.nd
    have a1 := OA.tab.pos
    have b1 := OB.tab.pos
    have r1 := OA.to_lcm b1
    have r2 := OB.to_lcm2 a1
    have hr6 : Room 6 _ := hr.mono (by decide)
    have hr5 : Room 5 _ := hr.mono (by decide)
    refine ⟨_, pss_cons (ps_set (i := 2) nd rfl (Or.inl rfl) (pe_cn (ok_behind T).n hr6 passL (pa_cons (pv 0) (pa_cons (pv 1) pa_nil))))
      (pss_cons (ps_if (pt_not (pt_val (pe_mn T.cl (ok_isSame T) hr pass0 (pe_mn0 T.cl (ok_byTable T) hr6 pass0 (pv 2)) (pa_cons (pe_cn (ok_behind T).n hr6 passL (pa_cons (pe_mn0 T.cl (ok_byTable T) hr6 pass0 (pv 1)) (pa_cons (pe_mn0 T.cl (ok_byTable T) hr6 pass0 (pv 0)) pa_nil))) pa_nil)))) (pss_one (ps_ret pe_bl)) pss_nil)
      (pss_cons (ps_if (pt_not (pt_val (pe_mn T.cl (ok_isSame T) hr pass0 (pe_mn0 T.cl (ok_tilTable T) hr6 pass0 (pv 2)) (pa_cons (pe_cn (ok_behind T).n hr6 passL (pa_cons (pe_mn0 T.cl (ok_tilTable T) hr6 pass0 (pv 1)) (pa_cons (pe_mn0 T.cl (ok_tilTable T) hr6 pass0 (pv 0)) pa_nil))) pa_nil)))) (pss_one (ps_ret pe_bl)) pss_nil)
      (pss_cons (ps_par (i := 3) (j := 4) rfl nd rfl rfl (by decide) rfl rfl (pa_cons (pe_cn (ok_later T).n hr6 passL (pa_cons (pv 0) (pa_cons (pv 1) pa_nil))) (pa_cons (pe_cn (ok_sooner T).n hr6 passL (pa_cons (pv 0) (pa_cons (pv 1) pa_nil))) pa_nil)) (by rfl))
      (pss_cons (ps_if (pt_not (pt_val (pe_mn T.cl (ok_isSame T) hr pass0 (pe_mn0 T.cl (ok_tilTable T) hr6 pass0 (pv 3)) (pa_cons (pe_cn (ok_sooner T).n hr6 passL (pa_cons (pe_mn0 T.cl (ok_tilTable T) hr6 pass0 (pv 0)) (pa_cons (pe_mn0 T.cl (ok_tilTable T) hr6 pass0 (pv 1)) pa_nil))) pa_nil)))) (pss_one (ps_ret pe_bl)) pss_nil)
      (pss_cons (ps_if (pt_not (pt_val (pe_mn T.cl (ok_isSame T) hr pass0 (pe_mn0 T.cl (ok_byTable T) hr6 pass0 (pv 4)) (pa_cons (pe_cn (ok_later T).n hr6 passL (pa_cons (pe_mn0 T.cl (ok_byTable T) hr6 pass0 (pv 0)) (pa_cons (pe_mn0 T.cl (ok_byTable T) hr6 pass0 (pv 1)) pa_nil))) pa_nil)))) (pss_one (ps_ret pe_bl)) pss_nil)
      (pss_one (ps_ret (pe_and (pe_cmpR op_isN (pe_cn (ok_firstAbove T).n hr5 passL (pa_cons (pv 4) (pa_cons (pv 3) pa_nil))) pe_non (nomark _)) (pe_and (pe_cmpR op_isN (pe_cn (ok_firstAbove T).n hr5 passL (pa_cons (pv 0) (pa_cons (pv 3) pa_nil))) pe_non (nomark _)) (pe_one (pe_cmpR op_isN (pe_cn (ok_firstAbove T).n hr5 passL (pa_cons (pv 4) (pa_cons (pv 1) pa_nil))) pe_non (nomark _)))))))))))), ?_⟩
    -- _law_both
    refine ⟨_, rfl, _, rfl, as, bs, ⟨p, p2, M, M, rfl, TA, TB, OA, OB⟩, fun _ pb H1 mb => ?_, fun h => absurd h (by omega)⟩
    have rc := r1.comp r2
    have n1 := rc.n1
    have lc := Nat.lcm_comm bs.length as.length
    have d1 : as.length ∣ Nat.lcm as.length bs.length := Nat.dvd_lcm_left _ _
    have d2 : bs.length ∣ Nat.lcm as.length bs.length := Nat.dvd_lcm_right _ _
    have lmax := r1.max r2
    have lmin := r1.min r2
    have OC : OkT (M + M) (tabF (fBehind (On as) (On bs)) (Nat.lcm as.length bs.length)) := okTab rc hlcm hM
    have onC : On (tabF (fBehind (On as) (On bs)) (Nat.lcm as.length bs.length)) = fBehind (On as) (On bs) := on_tabF rc
    generalize hn : Nat.lcm as.length bs.length = n at *
    have OLA : OkT M (tabF (fLater (On as) (On bs)) n) := okTab lmax hlcm OA.small
    have onLA : On (tabF (fLater (On as) (On bs)) n) = fLater (On as) (On bs) := on_tabF lmax
    have OSO : OkT M (tabF (fSooner (On as) (On bs)) n) := okTab lmin hlcm OA.small
    have onSO : On (tabF (fSooner (On as) (On bs)) n) = fSooner (On as) (On bs) := on_tabF lmin
    have la := OA.tab.most
    have lb := OB.tab.most
    have OAb : OkT M (tabF (By (On as)) as.length) := okTab OA.rule.byR la OA.small
    have OBb : OkT M (tabF (By (On bs)) bs.length) := okTab OB.rule.byR lb OB.small
    have OAt : OkT M (tabF (Til (On as)) as.length) := okTab OA.rule.tilR la OA.small
    have OBt : OkT M (tabF (Til (On bs)) bs.length) := okTab OB.rule.tilR lb OB.small
    have onAb := on_tabF OA.rule.byR
    have onBb := on_tabF OB.rule.byR
    have onAt := on_tabF OA.rule.tilR
    have onBt := on_tabF OB.rule.tilR
    have byR2 := OB.rule.byR.wide n1 d2
    have byR1 := OA.rule.byR.wide n1 d1
    have tilR2 := OB.rule.tilR.wide n1 d2
    have tilR1 := OA.rule.tilR.wide n1 d1
    have TC := mb.at
    have s1 := mb.same
    -- both.by_table().is_same(behind(other.by_table(), table.by_table()))
    refine ⟨_, rfl, recv TC (by decide +kernel) (by decide +kernel) ⟨pb, _, _, rfl, TC, OC, fun q1 H2 m1 => ?_⟩⟩
    have s2 := s1.trans m1.same
    refine recv m1.at (by decide +kernel) (by decide +kernel) ⟨_, rfl, recv (TB.same s2) (by decide +kernel) (by decide +kernel) ⟨p2, bs, M, rfl, TB.same s2, OB, fun q2 H3 m2 => ?_⟩⟩
    have s3 := s2.trans m2.same
    refine ⟨_, rfl, recv (TA.same s3) (by decide +kernel) (by decide +kernel) ⟨p, as, M, rfl, TA.same s3, OA, fun q3 H4 m3 => ?_⟩⟩
    refine ⟨_, _, ⟨q2, q3, M, M, rfl, m2.at.same m3.same, m3.at, OBb, OAb⟩, fun _ q4 H5 m4 => ?_, fun h => absurd h (by rw [tabF_len, tabF_len, lc]; omega)⟩
    rw [tabF_len, tabF_len, lc, onBb, onAb] at m4
    rw [tabF_len, onC] at m1
    have rX : Rule (M + M) n (By (fBehind (On as) (On bs))) := rc.byR
    have rY : Rule (M + M) n (fBehind (By (On bs)) (By (On as))) := byR2.comp byR1
    refine ⟨q1, q4, _, _, M + M, M + M, rfl, m1.at.same ((m2.same.trans m3.same).trans m4.same), m4.at, okTab rX hlcm hM, okTab rY hlcm hM, fun H6 r s6 hrr => ?_⟩
    obtain rfl : r = true := hrr.mpr fun x => by
      rw [on_tabF rX, on_tabF rY]
      exact by_comp OA.rule OB.rule rc x
    refine ⟨true, rfl, iteF ?_⟩
    have s06 := (s3.trans m3.same).trans (m4.same.trans s6)
    have s16 := ((m1.same.trans m2.same).trans m3.same).trans (m4.same.trans s6)
    clear m1 m2 m3 m4 s6 s2 s3 rX rY
    -- both.til_table().is_same(behind(other.til_table(), table.til_table()))
    refine ⟨_, rfl, recv (TC.same s16) (by decide +kernel) (by decide +kernel) ⟨pb, _, _, rfl, TC.same s16, OC, fun q1 H2 m1 => ?_⟩⟩
    have s2 := s06.trans m1.same
    refine recv m1.at (by decide +kernel) (by decide +kernel) ⟨_, rfl, recv (TB.same s2) (by decide +kernel) (by decide +kernel) ⟨p2, bs, M, rfl, TB.same s2, OB, fun q2 H3 m2 => ?_⟩⟩
    have s3 := s2.trans m2.same
    refine ⟨_, rfl, recv (TA.same s3) (by decide +kernel) (by decide +kernel) ⟨p, as, M, rfl, TA.same s3, OA, fun q3 H4 m3 => ?_⟩⟩
    refine ⟨_, _, ⟨q2, q3, M, M, rfl, m2.at.same m3.same, m3.at, OBt, OAt⟩, fun _ q4 H5 m4 => ?_, fun h => absurd h (by rw [tabF_len, tabF_len, lc]; omega)⟩
    rw [tabF_len, tabF_len, lc, onBt, onAt] at m4
    rw [tabF_len, onC] at m1
    have rX : Rule (M + M) n (Til (fBehind (On as) (On bs))) := rc.tilR
    have rY : Rule (M + M) n (fBehind (Til (On bs)) (Til (On as))) := tilR2.comp tilR1
    refine ⟨q1, q4, _, _, M + M, M + M, rfl, m1.at.same ((m2.same.trans m3.same).trans m4.same), m4.at, okTab rX hlcm hM, okTab rY hlcm hM, fun H7 r s6 hrr => ?_⟩
    obtain rfl : r = true := hrr.mpr fun x => by
      rw [on_tabF rX, on_tabF rY]
      exact til_comp OA.rule OB.rule rc x
    refine ⟨true, rfl, iteF ?_⟩
    have s07 := (s3.trans m3.same).trans (m4.same.trans s6)
    clear m1 m2 m3 m4 s6 s2 s3 rX rY
    -- latest, soonest
    refine ⟨_, rfl, _, rfl, as, bs, ⟨p, p2, M, M, rfl, TA.same s07, TB.same s07, OA, OB⟩, fun _ pl H8 ml => ?_, fun h => absurd h (by omega)⟩
    have s08 := s07.trans ml.same
    refine ⟨_, rfl, _, rfl, as, bs, ⟨p, p2, M, M, rfl, TA.same s08, TB.same s08, OA, OB⟩, fun _ ps H9 ms => ?_, fun h => absurd h (by omega)⟩
    rw [hn] at ml ms
    have s09 := s08.trans ms.same
    have TL := ml.at.same ms.same
    have TS := ms.at
    refine ⟨_, _, rfl, ?_⟩
    clear s08 ml ms
    -- latest.til_table().is_same(sooner(table.til_table(), other.til_table()))
    refine ⟨_, rfl, recv TL (by decide +kernel) (by decide +kernel) ⟨pl, _, _, rfl, TL, OLA, fun q1 H2 m1 => ?_⟩⟩
    have s2 := s09.trans m1.same
    refine recv m1.at (by decide +kernel) (by decide +kernel) ⟨_, rfl, recv (TA.same s2) (by decide +kernel) (by decide +kernel) ⟨p, as, M, rfl, TA.same s2, OA, fun q2 H3 m2 => ?_⟩⟩
    have s3 := s2.trans m2.same
    refine ⟨_, rfl, recv (TB.same s3) (by decide +kernel) (by decide +kernel) ⟨p2, bs, M, rfl, TB.same s3, OB, fun q3 H4 m3 => ?_⟩⟩
    refine ⟨_, _, ⟨q2, q3, M, M, rfl, m2.at.same m3.same, m3.at, OAt, OBt⟩, fun _ q4 H5 m4 => ?_, fun h => absurd h (by rw [tabF_len, tabF_len, hn]; omega)⟩
    rw [tabF_len, tabF_len, hn, onBt, onAt] at m4
    rw [tabF_len, onLA] at m1
    have rX : Rule M n (Til (fLater (On as) (On bs))) := lmax.tilR
    have rY : Rule M n (fSooner (Til (On as)) (Til (On bs))) := tilR1.min tilR2
    refine ⟨q1, q4, _, _, M, M, rfl, m1.at.same ((m2.same.trans m3.same).trans m4.same), m4.at, okTab rX hlcm OA.small, okTab rY hlcm OA.small, fun H10 r s6 hrr => ?_⟩
    obtain rfl : r = true := hrr.mpr fun x => by
      rw [on_tabF rX, on_tabF rY]
      exact til_max OA.rule OB.rule lmax x
    refine ⟨true, rfl, iteF ?_⟩
    have s010 := (s3.trans m3.same).trans (m4.same.trans s6)
    have s910 := ((m1.same.trans m2.same).trans m3.same).trans (m4.same.trans s6)
    clear m1 m2 m3 m4 s6 s2 s3 rX rY
    -- soonest.by_table().is_same(later(table.by_table(), other.by_table()))
    refine ⟨_, rfl, recv (TS.same s910) (by decide +kernel) (by decide +kernel) ⟨ps, _, _, rfl, TS.same s910, OSO, fun q1 H2 m1 => ?_⟩⟩
    have s2 := s010.trans m1.same
    refine recv m1.at (by decide +kernel) (by decide +kernel) ⟨_, rfl, recv (TA.same s2) (by decide +kernel) (by decide +kernel) ⟨p, as, M, rfl, TA.same s2, OA, fun q2 H3 m2 => ?_⟩⟩
    have s3 := s2.trans m2.same
    refine ⟨_, rfl, recv (TB.same s3) (by decide +kernel) (by decide +kernel) ⟨p2, bs, M, rfl, TB.same s3, OB, fun q3 H4 m3 => ?_⟩⟩
    refine ⟨_, _, ⟨q2, q3, M, M, rfl, m2.at.same m3.same, m3.at, OAb, OBb⟩, fun _ q4 H5 m4 => ?_, fun h => absurd h (by rw [tabF_len, tabF_len, hn]; omega)⟩
    rw [tabF_len, tabF_len, hn, onBb, onAb] at m4
    rw [tabF_len, onSO] at m1
    have rX : Rule M n (By (fSooner (On as) (On bs))) := lmin.byR
    have rY : Rule M n (fLater (By (On as)) (By (On bs))) := byR1.max byR2
    refine ⟨q1, q4, _, _, M, M, rfl, m1.at.same ((m2.same.trans m3.same).trans m4.same), m4.at, okTab rX hlcm OA.small, okTab rY hlcm OA.small, fun H11 r s6 hrr => ?_⟩
    obtain rfl : r = true := hrr.mpr fun x => by
      rw [on_tabF rX, on_tabF rY]
      exact by_min OA.rule OB.rule lmin x
    refine ⟨true, rfl, iteF ?_⟩
    have s911 := s910.trans (((m1.same.trans m2.same).trans m3.same).trans (m4.same.trans s6))
    have s011 := s09.trans s911
    clear m1 m2 m3 m4 s6 s2 s3 rX rY
    -- return ..
    have TL := TL.same s911
    have TS := TS.same s911
    have TA := TA.same s011
    have TB := TB.same s011
    refine ⟨_, rfl, _, rfl, _, _, ⟨ps, pl, M, M, rfl, TS, TL, OSO, OLA⟩, fun _ H12 s12 => ?_, fun h => absurd h (by rw [tabF_len, tabF_len, Nat.lcm_self]; omega)⟩
    refine ⟨rfl, _, rfl, iteD (none_above fun x => by rw [onSO, onLA]; unfold fSooner fLater; omega) ?_⟩
    refine ⟨_, rfl, _, rfl, _, _, ⟨p, pl, M, M, rfl, TA.same s12, TL.same s12, OA, OLA⟩, fun _ H13 s13 => ?_, fun h => absurd h (by rw [tabF_len]; have := lcm_right d1 n1; omega)⟩
    refine ⟨rfl, _, rfl, iteD (none_above fun x => by rw [onLA]; unfold fLater; omega) ?_⟩
    have s13' := s12.trans s13
    refine ⟨_, rfl, _, rfl, _, _, ⟨ps, p2, M, M, rfl, TS.same s13', TB.same s13', OSO, OB⟩, fun _ H14 s14 => ?_, fun h => absurd h (by rw [tabF_len]; have := lcm_left d2 n1; omega)⟩
    exact ⟨rfl, q_of (vb_true (none_above fun x => by rw [onSO]; unfold fSooner; omega)) (q _ (s011.trans (s13'.trans s14)))⟩
end
end K13
set_option Elab.async false
set_option linter.all false
set_option maxRecDepth 100000
set_option maxHeartbeats 8000000
namespace K13
open PySem PySem.Spec PyProof.Rows L2
/-! ### a call of a local name that holds one of several defs -/
def tCallD (i : Nat) (D : Addr → Prop) (sp : Sp) (E : L2.St → XK) (t : TA) : TE := fun σ H Q => ∃ f, σ[i]? = some (some (.ref f)) ∧ D f ∧ t σ H fun vs H1 => sp vs H1 Q (E σ)
section
variable {X : Cx} {CX : CXT} {k i : Nat} {ps : List Str} {sp : Sp} {D : Addr → Prop} {E : L2.St → XK} {x : Str} {p pos : Pos} {e : Expr} {es : List Expr} {t : TA}
theorem pe_callD (A : ∀ f, D f → ∃ fd, PySem.W.keepIn X.K (.ref f) = true ∧ Binds X.K fd ps [] ∧ FnOk X.prog X.w X.K X.mg X.base CX k f fd ps sp) (hr : Room k X.A) (hN : X.N[i]? = some x) (hv : Vis X.env.scope x) (hx : ∀ σ, PassesAt CX X σ (E σ)) (ha : PA X (e :: es) t)
    (hdb : (x == ("__debug__" : Str)) = false := by decide) (hcd : (x == ("__classdict__" : Str)) = false := by decide)
    (he : starEach (e :: es) X.env = (false, eval e X.env) :: starEach es X.env := by rfl) (hpl : (backTo pos (starEach es X.env)).any (·.1) = false := by rfl) : PE X (.Call (.Name x p) (e :: es) [] pos) (tCallD i D sp E t) := by
  refine ⟨fun pins s σ H Q I h => ?_⟩
  obtain ⟨f, hs, hD, ht⟩ := h
  obtain ⟨fd, hk, hb, F⟩ := A f hD
  refine wpAny_Call_Name_kw (thn ((pe_var (pos := p) hN hv hdb hcd).run pins s σ H (fun v H1 => v = .ref f ∧ H1 = H) I ⟨.ref f, hs, rfl, rfl⟩) fun u s1 ⟨v, H1, I1, r1, q1⟩ => ?_)
  obtain ⟨rfl, rfl⟩ := q1
  cases r1
  refine PySem.W.callWith_K (h₀ := X.base) I.ok.mod.kin hk (thn (ha.run pos pins s1 σ _ _ I1 ht) fun us s2 ⟨vs, H2, I2, r, q⟩ => ⟨I2.kIn, ?_⟩) he hpl
  exact run_fnS F hr hb (hx σ) I2 r q
end
section
variable {P : Program} {w : World} {K : PySem.W.Frag} {mg : Str → Option Value} {base : Heap} {C B L fB : Addr}
/-- a deed that refuses common lengths above 600 -/
def spRef (C B : Addr) : Sp := fun vs H Q E => ∃ as bs : List Int, Two C H vs as bs ∧ 600 < Nat.lcm as.length bs.length ∧ Refuse B H E
def Deed (P : Program) (w : World) (K : PySem.W.Frag) (mg : Str → Option Value) (base : Heap) (C B : Addr) (f : Addr) : Prop := ∃ fd, PySem.W.keepIn K (.ref f) = true ∧ Binds K fd ["table", "other_table"] [] ∧ FnOk P w K mg base (L2.CX P w) 6 f fd ["table", "other_table"] (spRef C B)
theorem made_ref {F : (Int → Int) → (Int → Int) → Int → Int} {vs : List V} {H : Hp} {Q : VK} {E : XK} (h : spRef C B vs H Q E) : spMade C B F vs H Q E := by
  obtain ⟨as, bs, t, l, r⟩ := h
  exact ⟨as, bs, t, fun c => absurd c (by omega), fun _ => r⟩
theorem first_ref {pr : Int → Bool} {vs : List V} {H : Hp} {Q : VK} {E : XK} (h : spRef C B vs H Q E) : spFirst C B pr vs H Q E := by
  obtain ⟨as, bs, t, l, r⟩ := h
  exact ⟨as, bs, t, fun c => absurd c (by omega), fun _ => r⟩
theorem most_ref {vs : List V} {H : Hp} {Q : VK} {E : XK} (h : spRef C B vs H Q E) : spMost C B vs H Q E := by
  obtain ⟨as, bs, t, l, r⟩ := h
  exact ⟨as, bs, t, fun c => absurd c (by omega), fun _ => r⟩
theorem deed_of {x : Str} {k : Nat} {sp : Sp} (O : OkS P w K mg base x (L2.CX P w) k sp) (hk : k ≤ 6) (h : ∀ vs H Q E, spRef C B vs H Q E → sp vs H Q E) : ∃ f, mg x = some (.ref f) ∧ Deed P w K mg base C B f := by
  obtain ⟨f, fd, hm, kp, b, _, F⟩ := O
  exact ⟨f, hm, fd, kp, b, (F.imp h).mono hk⟩
/-! ### _law_refusal -/
def tSuite (B : Addr) : Addr → Value → Option Addr → TS := fun a cls d => tRet (tLst (tCons (tTooF B a cls d "what" (tVar 3)) (tCons (tTooF B a cls d "limit" (tVar 3)) tNil)))
def spRefusal (P : Program) (w : World) (K : PySem.W.Frag) (mg : Str → Option Value) (base : Heap) (C B : Addr) : Sp := fun vs H Q _ => ∃ (f : Addr) (ws : List V) (as bs : List Int), vs = .ref f :: ws ∧ Deed P w K mg base C B f ∧ Two C H ws as bs ∧ 600 < Nat.lcm as.length bs.length ∧
  ∀ l H', H l = none → Same H H' → H' l = some (.lst [.str "length", .int 600]) → Q (.ref l) H'
theorem ok_refusal (T : Txt K mg C B L fB) : OkN P w K mg base "_law_refusal" CX0 7 ["_law_deed", "_law_table", "_law_other_table"] (spRefusal P w K mg base C B) := by
  refine T.d_refusal.ok fun f fd F => F.ok c_refusal (fun vs H Q E h => ?_) (fun cdv A outer s H vs Q E hr h => ?_)
  · obtain ⟨f, ws, as, bs, rfl, _, ⟨p, p2, M, M2, rfl, _⟩, _⟩ := h
    rfl
  · obtain ⟨f, ws, as, bs, rfl, hD, ⟨p, p2, M, M2, rfl, TA, TB, OA, OB⟩, hl, q⟩ := h
    have nd := c_refusal.nd
    refine ⟨_, pss_cons (ps_try_as (i := 3) (tb := fun W => tDrop (tCallD 0 (Deed P w K mg base C B) (spRef C B) (WE W) (tCons (tVar 1) (tCons (tVar 2) tNil)))) (ts := tSuite B) (Wout := fun _ _ _ _ => False) rfl rfl nd rfl rfl ⟨rfl, by decide, Or.inl T.too.gC⟩ takes0
        (fun W pn xe tk _ => pss_one (ps_expr (by exact (pe_callD (fun f h => h) hr rfl (Or.inl rfl) (fun σ => passAt tk σ) (by exact (pa_cons (pv 1) (pa_cons (pv 2) pa_nil)))))))
        (fun a oe cls d pn hz hf => pss_one (ps_ret (by exact (pe_lst (pa_cons (pe_tooF T.too T.too.nW hz hf (pv 3)) (pa_cons (pe_tooF T.too T.too.nL hz hf (pv 3)) pa_nil)))))))
      (pss_one (ps_ret pe_str)), ?_⟩
    refine ⟨f, rfl, hD, _, rfl, _, rfl, as, bs, ⟨p, p2, M, M2, rfl, TA, TB, OA, OB⟩, hl, fun d hd => ?_⟩
    refine ⟨true, T.too.te, fun _ a0 na => ?_, fun z => Bool.noConfusion z⟩
    refine ⟨_, rfl, rfl, rfl, d, _, _, _, rfl, upd_same, tooF_what _ _, _, rfl, rfl, rfl, d, _, _, _, rfl, upd_same, tooF_limit _ _, (by show 2 ≤ sizeLine; decide), fun l nl => ?_⟩
    have s1 := same_new (o := .xd (tooF (.str "length") (.int 600))) hd
    exact q l _ (s1.free nl) (s1.trans (same_new nl)) upd_same
end
end K13
set_option Elab.async false
set_option linter.all false
set_option maxRecDepth 100000
set_option maxHeartbeats 8000000
namespace K13
open PySem PySem.Spec PyProof.Rows L2
/-- a Table that stands apart from a -/
def TabX (C : Addr) (H : Hp) (p a : Addr) (ds : List Int) : Prop := ∃ l, TabA C H p l ds ∧ p ≠ a ∧ l ≠ a
section
variable {C p a : Addr} {H H' : Hp} {ds : List Int} {o : HO}
theorem TabX.at (h : TabX C H p a ds) : TabAt C H p ds := by
  obtain ⟨l, t, _⟩ := h
  exact ⟨l, t⟩
theorem TabX.but (h : TabX C H p a ds) (b : But a H H') : TabX C H' p a ds := by
  obtain ⟨l, t, n1, n2⟩ := h
  exact ⟨l, t.but b n1 n2, n1, n2⟩
theorem NewTab.apart (n : NewTab C H H' p ds) (h : H a = some o) : TabX C H' p a ds := by
  obtain ⟨np, s, l, nl, t⟩ := n
  exact ⟨l, t, (ne_of_none h np).symm, (ne_of_none h nl).symm⟩
theorem Pot.some (h : Pot H a) : ∃ o, H a = some o := by
  obtain ⟨x, y, e, _⟩ := h
  exact ⟨_, e⟩
end
theorem mk_tabR {C : Addr} {H : Hp} {a : Addr} {ds : List Int} {R : Addr → Hp → Prop} {E : XK} (ha : H a = some (iL ds)) (TD : Tab ds) (k : ∀ p H', NewTab C H H' p ds → R p H') :
    ∀ x dx, H x = none → H dx = none → dx ≠ x → spInit C (.ref x :: ([.ref a] ++ [])) (upd (upd H dx (.own x)) x (.ins C dx [])) (fun v H2 => v = .non ∧ R x H2) E :=
  mk_tab (Q := fun v H => match v with | .ref x => R x H | _ => True) ha TD k
/-! ### rows of refusals -/
def refD : PyData := .list [.str "length", .int 600]
def refsD : PyData := .list (List.replicate 6 refD)
def RefAt (D : Addr) (H : Hp) (y : V) : Prop := ∃ l, y = .ref l ∧ l ≠ D ∧ H l = some (.lst [.str "length", .int 600])
theorem ref_dp {K : PySem.W.Frag} {H : Hp} {l : Addr} (h : H l = some (.lst [.str "length", .int 600])) : Dp K H (.ref l) refD := .lst (SqL.of h) (.cons (.str _) (.cons (.int _) .nil))
theorem refs_all {K : PySem.W.Frag} {D : Addr} {H : Hp} : ∀ {ys : List V} {n : Nat}, ys.length = n → (∀ (i : Nat) y, ys[i]? = some y → RefAt D H y) → DpAll K H ys (List.replicate n refD)
  | [], 0, _, _ => .nil
  | [], _ + 1, h, _ => nomatch h
  | _ :: _, 0, h, _ => nomatch h
  | y :: ys, n + 1, h, g => by
    obtain ⟨l, rfl, _, hl⟩ := g 0 y rfl
    exact .cons (ref_dp hl) (refs_all (Nat.succ.inj h) fun i z hz => g (i + 1) z hz)
theorem refs_shaped : SeqAt.shaped refsD = true := by decide +kernel
theorem refs_eqv : PyData.eqv refsD refsD = true := by decide +kernel
theorem lcm_over {n : Nat} (h : n = 26 ∨ n = 599 ∨ n = 49) : 600 < Nat.lcm 25 n := by
  rcases h with rfl | rfl | rfl <;> decide
section
variable {P : Program} {w : World} {K : PySem.W.Frag} {mg : Str → Option Value} {base : Heap} {C B L fB : Addr}
/-! ### _law_long_right -/
def spLong : Sp := fun vs H Q _ => ∃ a : Addr, vs = [.ref a] ∧ Pot H a ∧ ∀ H', But a H H' → Q (.bl true) H'
theorem ok_long (T : Txt K mg C B L fB) : OkG P w K mg base "_law_long_right" 9 ["_law_pot_here"] spLong := by
  obtain ⟨f1, g1, D1⟩ := deed_of (C := C) (B := B) (ok_behind (P := P) (w := w) (base := base) T) (by decide) (fun _ _ _ _ => made_ref)
  obtain ⟨f2, g2, D2⟩ := deed_of (C := C) (B := B) (ok_later (P := P) (w := w) (base := base) T) (by decide) (fun _ _ _ _ => made_ref)
  obtain ⟨f3, g3, D3⟩ := deed_of (C := C) (B := B) (ok_sooner (P := P) (w := w) (base := base) T) (by decide) (fun _ _ _ _ => made_ref)
  obtain ⟨f4, g4, D4⟩ := deed_of (C := C) (B := B) (ok_firstAbove (P := P) (w := w) (base := base) T) (by decide) (fun _ _ _ _ => first_ref)
  obtain ⟨f5, g5, D5⟩ := deed_of (C := C) (B := B) (ok_mostAbove (P := P) (w := w) (base := base) T) (by decide) (fun _ _ _ _ => most_ref)
  obtain ⟨f6, g6, D6⟩ := deed_of (C := C) (B := B) (ok_firstParting (P := P) (w := w) (base := base) T) (by decide) (fun _ _ _ _ => first_ref)
  refine T.d_longRight.okG fun f fd F => F.okG c_longRight (fun vs H Q E h => ?_) (fun cdv A outer s H vs Q E hgd hr h => ?_)
  · obtain ⟨a, rfl, _⟩ := h
    rfl
  · obtain ⟨a, rfl, PA, q⟩ := h
    have nd := c_longRight.nd
    have hgd' : (A.deeper (envOfC "_law_long_right" (defScope s_longRight) s.heap.objs.size f cdv)).guards = some [] := hgd
    have hr1 : Room 1 _ := hr.mono (by decide)
    have hr2 : Room 2 _ := hr.mono (by decide)
    have hr3 : Room 3 _ := hr.mono (by decide)
    have hr5 : Room 5 _ := hr.mono (by decide)
    have hr7 : Room 7 _ := hr.mono (by decide)
    refine ⟨_, pss_cons (ps_par (i := 1) (j := 2) rfl nd rfl rfl (by decide) rfl rfl (pa_cons (pe_cn (ok_lDays T) hr3 pass0 (pa_cons (pv 0) (pa_cons pe_int (pa_cons (pe_op op_sub (pe_cn (ok_draw T) hr1 pass0 (pa_cons (pv 0) (pa_cons pe_int pa_nil))) pe_int) pa_nil))))
          (pa_cons (pe_cn (ok_lDays T) hr3 pass0 (pa_cons (pv 0) (pa_cons pe_int (pa_cons (pe_op op_sub (pe_cn (ok_draw T) hr1 pass0 (pa_cons (pv 0) (pa_cons pe_int pa_nil))) pe_int) pa_nil)))) pa_nil)) (by rfl))
      (pss_cons (ps_asg (pe_tup (pa_cons (pe_mk (ok_init T) hr5 T.gT pass0 (pa_cons (pv 1) pa_nil)) (pa_cons (pe_mk (ok_init T) hr5 T.gT pass0 (pa_cons (pv 2) pa_nil)) pa_nil))) (pg_tup rfl (pgs_cons (pg_name (i := 3) nd rfl (Or.inl rfl)) (pgs_cons (pg_name (i := 4) nd rfl (Or.inr rfl)) pgs_nil))))
      (pss_cons (ps_if (PW.pt (pw_or (pt_not (pt_val (pe_cg hgd' (ok_joined T) hr7 (pa_cons (pv 3) (pa_cons (pv 1) (pa_cons (pv 4) (pa_cons (pv 2) pa_nil))))))) (pw_or1 (pt_not (pt_val (pe_cg hgd' (ok_held T) hr (pa_cons (pv 4) (pa_cons (pv 2) (pa_cons (pv 3) (pa_cons (pv 1) pa_nil)))))))))) (pss_one (ps_ret pe_bl)) pss_nil)
      (pss_cons (ps_set (i := 5) nd rfl (Or.inr rfl) (pe_mk (ok_init T) hr5 T.gT pass0 (pa_cons (pe_cn (ok_lDays T) hr3 pass0 (pa_cons (pv 0) (pa_cons (pe_cn (ok_pick T) hr2 pass0 (pa_cons (pv 0) (pa_cons (pe_lst (pa_cons pe_int (pa_cons (pe_op op_sub pe_int pe_int) (pa_cons pe_int pa_nil)))) pa_nil))) (pa_cons pe_int pa_nil)))) pa_nil)))
      (pss_cons (ps_set (i := 6) nd rfl (Or.inl rfl) (pe_lst (pa_cons (pe_glob (v := .ref f1) rfl g1 rfl) (pa_cons (pe_glob (v := .ref f2) rfl g2 rfl) (pa_cons (pe_glob (v := .ref f3) rfl g3 rfl) (pa_cons (pe_glob (v := .ref f4) rfl g4 rfl) (pa_cons (pe_glob (v := .ref f5) rfl g5 rfl) (pa_cons (pe_glob (v := .ref f6) rfl g6 rfl) pa_nil))))))))
      (pss_one (ps_ret (pe_cmpR (op_eqD hr.units) (pe_lg (own := [("_law_deed", 7)]) (g := gName 7) (tt := tYes) rfl nd (pi_list (pv 6)) (blkOk_by (N := ["_law_pot_here", "_law_days_here", "_law_others", "_law_long", "_law_wide", "_law_other", "_law_deeds", "_law_deed"]) (sc := defScope s_longRight) (by decide +kernel)) (fun _ _ _ _ _ => pg_name (i := 7) nd rfl (Or.inl rfl)) (fun _ _ _ _ _ => pts_nil)
            (fun _ _ _ _ _ => pe_cn (ok_refusal (P := P) (w := w) (base := base) T) hr7 pass0 (pa_cons (pv 7) (pa_cons (pv 4) (pa_cons (pv 5) pa_nil)))))
          (pe_op op_rep (pe_lst (pa_cons (pe_lst (pa_cons pe_str (pa_cons pe_int pa_nil))) pa_nil)) pe_int) (nomark _)))))))), ?_⟩
    -- days_here, others
    refine ⟨_, rfl, _, rfl, a, 30, rfl, PA, by decide, by decide, fun r1 H1 hr1' b1 P1 => ?_⟩
    refine ⟨_, _, rfl, rfl, a, 24, _, rfl, P1, by decide, by decide, fun l1 ds1 H2 nl1 b2 P2 hl1 len1 TD1 near1 => ?_⟩
    obtain ⟨o1, e1⟩ := P1.some
    have nl1a : l1 ≠ a := (ne_of_none e1 nl1).symm
    refine ⟨_, rfl, _, rfl, a, 30, rfl, P2, by decide, by decide, fun r2 H3 hr2' b3 P3 => ?_⟩
    refine ⟨_, _, rfl, rfl, a, 25, _, rfl, P3, by decide, by decide, fun l2 ds2 H4 nl2 b4 P4 hl2 len2 TD2 near2 => ?_⟩
    obtain ⟨o3, e3⟩ := P3.some
    have nl2a : l2 ≠ a := (ne_of_none e3 nl2).symm
    have hl1 := b4 _ _ (b3 _ _ hl1 nl1a) nl1a
    have b04 := ((b1.trans b2).trans b3).trans b4
    refine ⟨_, _, rfl, ?_⟩
    have O1 : OkT (100 + 600) ds1 := okT_of TD1 (by decide) fun j hj => by have := near1 j hj; omega
    have O2 : OkT (100 + 600) ds2 := okT_of TD2 (by decide) fun j hj => by have := near2 j hj; omega
    -- long, wide
    obtain ⟨o4, e4⟩ := P4.some
    refine ⟨_, rfl, ?_⟩
    refine mk_tabR hl1 TD1 fun p1 H5 n1 => ?_
    refine ⟨_, rfl, ?_⟩
    refine mk_tabR (n1.same _ _ hl2) TD2 fun p2 H6 n2 => ?_
    have X1 : TabX C H5 p1 a ds1 := n1.apart e4
    have X2 : TabX C H6 p2 a ds2 := n2.apart (n1.same _ _ e4)
    refine ⟨(by show 2 ≤ sizeLine; decide), fun t nt => ⟨t, _, rfl, .inl (.inl upd_same), rfl, _, _, rfl, _, _, rfl, rfl, ?_⟩⟩
    have st := same_new (o := .tup [.ref p1, .ref p2]) nt
    have s47 := (n1.same.trans n2.same).trans st
    have X1 := X1.but (Same.but (n2.same.trans st))
    have X2 := X2.but (Same.but st)
    have hl1 := s47 _ _ hl1
    have hl2 := s47 _ _ hl2
    have P7 := P4.same s47
    have b07 := b04.trans (Same.but s47)
    generalize upd H6 t (.tup [.ref p1, .ref p2]) = H7 at *
    have lc : Nat.lcm ds1.length ds2.length ≤ 600 := by rw [len1, len2]; decide
    have lc2 : Nat.lcm ds2.length ds1.length ≤ 600 := by rw [len1, len2]; decide
    refine ⟨_, rfl, _, rfl, _, rfl, _, rfl, ds1, ds2, ⟨p1, l1, p2, l2, _, _, rfl, X1.at, hl1, X2.at, hl2, O1, O2, lc⟩, fun H8 s8 => ⟨true, rfl, iteF ?_⟩⟩
    have X1 := X1.but (Same.but s8)
    have X2 := X2.but (Same.but s8)
    have hl1 := s8 _ _ hl1
    have hl2 := s8 _ _ hl2
    have P8 := P7.same s8
    have b08 := b07.trans (Same.but s8)
    refine ⟨_, rfl, _, rfl, _, rfl, _, rfl, ds2, ds1, ⟨p2, l2, p1, l1, _, _, rfl, X2.at, hl2, X1.at, hl1, O2, O1, lc2⟩, fun H9 s9 => ⟨true, rfl, iteF ?_⟩⟩
    have X2 := X2.but (Same.but s9)
    have P9 := P8.same s9
    have b09 := b08.trans (Same.but s9)
    clear X1 hl1 hl2 P8 b08 P7 b07
    -- other = Table(..)
    refine ⟨_, rfl, _, rfl, _, _, rfl, rfl, (by show 3 ≤ sizeLine; decide), fun z nz => ?_⟩
    have sz := same_new (o := iL [26, 599, 49]) nz
    obtain ⟨o9, e9⟩ := P9.some
    refine ⟨a, z, [26, 599, 49], rfl, P9.same sz, upd_same, (ne_of_none e9 nz).symm, by decide, by decide, fun r H10 hr3' b10 P10 => ?_⟩
    obtain ⟨n, rfl, hn⟩ : ∃ n : Nat, r = (n : Int) ∧ (n = 26 ∨ n = 599 ∨ n = 49) := by
      simp only [List.mem_cons, List.not_mem_nil, or_false] at hr3'
      exact ⟨r.toNat, by omega, by omega⟩
    refine ⟨a, n, 0, rfl, P10, by omega, by omega, fun l3 ds3 H11 nl3 b11 P11 hl3 len3 TD3 near3 => ?_⟩
    have O3 : OkT (600 + 600) ds3 := okT_of TD3 (by decide) fun j hj => by have := near3 j hj; omega
    have b911 := ((Same.but sz).trans b10).trans b11
    refine mk_tabR hl3 TD3 fun p3 H12 n3 => ?_
    have X2 := (X2.but b911).but (Same.but n3.same)
    have T3 := n3.at
    have b012 := (b09.trans b911).trans (Same.but n3.same)
    have over : 600 < Nat.lcm ds2.length ds3.length := by rw [len2, len3]; exact lcm_over hn
    -- deeds
    refine ⟨(by show 6 ≤ sizeLine; decide), fun u nu => ?_⟩
    have su := same_new (o := .lst [.ref f1, .ref f2, .ref f3, .ref f4, .ref f5, .ref f6]) nu
    have hu : upd H12 u (.lst [.ref f1, .ref f2, .ref f3, .ref f4, .ref f5, .ref f6]) u = some (.lst [.ref f1, .ref f2, .ref f3, .ref f4, .ref f5, .ref f6]) := upd_same
    have T2 := X2.at.same su
    have T3 := T3.same su
    have b013 := b012.trans (Same.but su)
    generalize upd H12 u (.lst [.ref f1, .ref f2, .ref f3, .ref f4, .ref f5, .ref f6]) = H13 at *
    have all : ∀ (i : Nat) x, ([.ref f1, .ref f2, .ref f3, .ref f4, .ref f5, .ref f6] : List V)[i]? = some x → ∃ f, x = .ref f ∧ Deed P w K mg base C B f := fun i x hx =>
      match i, hx with
      | 0, h => by cases h; exact ⟨_, rfl, D1⟩
      | 1, h => by cases h; exact ⟨_, rfl, D2⟩
      | 2, h => by cases h; exact ⟨_, rfl, D3⟩
      | 3, h => by cases h; exact ⟨_, rfl, D4⟩
      | 4, h => by cases h; exact ⟨_, rfl, D5⟩
      | 5, h => by cases h; exact ⟨_, rfl, D6⟩
      | _ + 6, h => by simp at h
    refine ⟨_, rfl, u, rfl, ⟨_, SqL.of hu⟩, lcN (fun D i H y => RefAt D H y) (fun D i H H' y b h => ?_) (SqL.of hu) (by show 6 ≤ 1000; decide) (fun _ => rfl) (fun D i x nD hx H R s13 hD k => ?_) (fun D H14 ys nD s14 hD hl g => ?_)⟩
    · obtain ⟨l, e, h1, h2⟩ := h
      exact ⟨l, e, h1, b _ _ h2 h1⟩
    · obtain ⟨f0, rfl, hf⟩ := all i x hx
      obtain ⟨o, hD⟩ := hD
      exact ⟨_, rfl, _, rfl, _, rfl, f0, _, ds2, ds3, rfl, hf, ⟨p2, p3, _, _, rfl, T2.same s13, T3.same s13, O2, O3⟩, over, fun l H4 nl s4 hl4 => k H4 _ s4 ⟨l, rfl, (ne_of_none hD nl).symm, hl4⟩⟩
    · have dp := Dp.lst (K := K) (SqL.of hD) (refs_all (K := K) (n := 6) hl g)
      refine ⟨(by show 2 ≤ sizeLine; decide), fun v1 nv1 => ⟨(by show 1 ≤ sizeLine; decide), fun v2 nv2 => ?_⟩⟩
      have sv1 := same_new (o := .lst [.str "length", .int 600]) nv1
      have sv2 := same_new (o := .lst [.ref v1]) nv2
      refine ⟨v2, 6, [.ref v1], rfl, rfl, upd_same, by decide, by decide, (by show 1 * 6 ≤ sizeLine; decide), fun v3 nv3 => ?_⟩
      have sv3 := same_new (o := .lst (List.replicate (6 : Int).toNat [V.ref v1]).flatten) nv3
      have hv1 := sv3 _ _ (sv2 _ _ (upd_same (H := H14) (a := v1) (o := .lst [.str "length", .int 600])))
      have s0 := (sv1.trans sv2).trans sv3
      have g2 : ∀ (i : Nat) y, ys[i]? = some y → RefAt D (upd (upd (upd H14 v1 (.lst [.str "length", .int 600])) v2 (.lst [.ref v1])) v3 (.lst (List.replicate (6 : Int).toNat [V.ref v1]).flatten)) y := fun i y hy => by
        obtain ⟨l, e, h1, h2⟩ := g i y hy
        exact ⟨l, e, h1, s0 _ _ h2⟩
      have dp1 : Dp K _ (.ref D) refsD := .lst (SqL.of (s0 _ _ hD)) (refs_all (n := 6) hl g2)
      have dp2 : Dp K _ (.ref v3) refsD := .lst (SqL.of upd_same) (refs_all (D := v3) (n := 6) rfl fun i y hy => ⟨v1, ?_, (ne_of_none (sv2 _ _ upd_same) nv3), hv1⟩)
      · exact ⟨_, _, dp1, dp2, refs_shaped, refs_shaped, q_of (by rw [refs_eqv]) (q _ (b013.trans (Same.but (s14.trans s0))))⟩
      · have : y ∈ ([.ref v1, .ref v1, .ref v1, .ref v1, .ref v1, .ref v1] : List V) := List.mem_of_getElem? hy
        simp only [List.mem_cons, List.not_mem_nil, or_false, or_self] at this
        exact this
end
end K13
set_option Elab.async false
set_option linter.all false
set_option maxRecDepth 100000
set_option maxHeartbeats 8000000
namespace K13
open PySem PySem.Spec PyProof.Rows L2
/-! ### a comprehension over enumerate -/
section
variable {te : TE} {vs : List Nat} {σ : L2.St} {H1 : Hp} {Q : VK} {j1 j2 n2 : Nat}
/-- [e for i, x in enumerate(xs)] -/
theorem lcE {K : PySem.W.Frag} {a : Addr} {ds : List Int} (f : Int → Int) (hs : SqL K H1 a (ds.map V.int)) (hn : ds.length ≤ 1000) (h2 : 2 = n2) (hw : ∀ x y, wipe (((wipe σ vs).set j1 (some x)).set j2 (some y)) vs = wipe σ vs)
    (ht : ∀ i : Nat, i < ds.length → ∀ H (R : VK), Same H1 H → (∀ H4, Same H H4 → R (.int (f (i : Int))) H4) → te (((wipe σ vs).set j1 (some (.int (i : Int)))).set j2 (some (.int (ds.getD i 0)))) H R)
    (hq : ∀ D H', H1 D = none → Same H1 H' → H' D = some (iL (tabF f ds.length)) → Q (.ref D) H') : LcGoal (Ite K a) (gTup K n2 (gCons (gName j1) (gCons (gName j2) gNil))) tYes te vs σ H1 Q := by
  subst h2
  intro D nD
  refine lc_it (walk_enum (K := K) (a := a) (xs := ds.map V.int)) (fun i H => Same H1 H ∧ H D = some (.lst ((List.range i).map fun k : Nat => V.int (f (k : Int))))) ⟨same_new nD, upd_same⟩ (fun i H _ p => p.1.seq hs) (fun i v H H' hi p y => ?_) (fun H p => ?_)
  · obtain ⟨T, x, z, rfl, nT, rfl, e1, e2⟩ := y
    cases e1
    obtain ⟨rfl, hi2⟩ := iL_get e2
    obtain ⟨s, hD⟩ := p
    have sT := same_new (o := .tup [.int (i : Int), .int (ds.getD i 0)]) nT
    refine ⟨T, _, rfl, .inl (.inl upd_same), rfl, _, _, rfl, _, _, rfl, rfl, hw _ _, ?_⟩
    unfold tYes
    dsimp only
    rw [if_pos rfl]
    refine ht i hi2 _ _ (s.trans sT) fun H4 s4 => ⟨_, s4 _ _ (sT _ _ hD), ?_, same_put nD ((s.trans sT).trans s4), ?_⟩
    · rw [List.length_map, List.length_range]
      exact line600 (by omega)
    · rw [upd_same, List.range_succ, List.map_append]
      rfl
  · obtain ⟨s, hD⟩ := p
    refine hq D H nD s ?_
    rw [hD, List.length_map, tab_vals f]
    rfl
theorem pg_tupK {X : Cx} {K : PySem.W.Frag} {es : List Expr} {k : Nat} {t : TGs} {n : Nat} {pos : Pos} (hK : X.K = K) (hc : X.calm = true) (h : PGs X es t)
    (hn : (assignEach es X.env).length = n := by rfl) (hst : (assignEach es X.env).findIdx? (·.1) = none := by rfl) : PG X (.Tuple es k pos) (gTup K n t) := by
  subst hK
  exact pg_tup hc h hn hst
end
/-! ### days risen from a place on -/
def riseF (ds : List Int) (k : Nat) : Int → Int := fun x => if (k : Int) ≤ x then On ds x + 1 else On ds x
theorem rise_at {ds : List Int} {k i : Nat} (h : i < ds.length) : (tabF (riseF ds k) ds.length).getD i 0 = if k ≤ i then ds.getD i 0 + 1 else ds.getD i 0 := by
  rw [tabF_getD h]
  unfold riseF
  rw [on_nat h]
  by_cases c : k ≤ i
  · rw [if_pos c, if_pos (by omega)]
  · rw [if_neg c, if_neg (by omega)]
theorem rise_tab {ds : List Int} {k : Nat} (h : Tab ds) (top : (tabF (riseF ds k) ds.length).getD (ds.length - 1) 0 ≤ (tabF (riseF ds k) ds.length).getD 0 0 + (ds.length : Int)) : Tab (tabF (riseF ds k) ds.length) := by
  have l1 := h.pos
  have l2 := h.most
  refine ⟨by rw [tabF_len]; exact l1, by rw [tabF_len]; exact l2, fun j hj => ?_, by rw [tabF_len]; exact top⟩
  rw [tabF_len] at hj
  rw [rise_at (by omega), rise_at hj]
  have := h.mono j hj
  split <;> split <;> omega
theorem rise_near {ds : List Int} {k : Nat} {B : Int} (h : ∀ j : Nat, j < ds.length → -B ≤ ds.getD j 0 ∧ ds.getD j 0 ≤ B) (j : Nat) (hj : j < (tabF (riseF ds k) ds.length).length) :
    -(B + 1) ≤ (tabF (riseF ds k) ds.length).getD j 0 ∧ (tabF (riseF ds k) ds.length).getD j 0 ≤ B + 1 := by
  rw [tabF_len] at hj
  rw [rise_at hj]
  have := h j hj
  split <;> omega
theorem OkT.small2 {M : Int} {ds : List Int} (h : OkT M ds) : Small ds := by
  have e := tab_self (ds := ds)
  rw [← e]
  have l2 := h.tab.most
  refine small_tab (by omega) fun i hi => ?_
  have := on_near h (i : Int)
  omega
section
variable {P : Program} {w : World} {K : PySem.W.Frag} {mg : Str → Option Value} {base : Heap} {C B L fB : Addr}
abbrev nR : List Str := ["_law_pot_here", "_law_one", "_law_first", "_law_days_here", "_law_way", "_law_others", "_law_place", "_law_risen", "_law_table", "_law_other_table", "_law_day", "_law_at", "_law_served"]
/-! ### _law_right, its last line -/
theorem ret_right (T : Txt K mg C B L fB) {f : Addr} {cdv : Value} {A : Around} {outer : List Env} {s : Shared} {H0 : Hp} {E : XK} (hgd : A.guards = some []) (hr : Room 9 (A.deeper (envOfC "_law_right" (defScope s_right) s.heap.objs.size f cdv))) :
    ∃ R : TS, PSs (cxOf CX0 P w K mg base nR "_law_right" (defScope s_right) f cdv A outer s H0 E).nox ((defBody s_right).drop 11) R ∧
      ∀ (Q : VK) (ld lo p1 p2 : Addr) (as bs : List Int) (v0 v1 v2 v4 v6 v7 v10 v11 v12 : Option V) (H : Hp), H ld = some (iL as) → H lo = some (iL bs) → TabAt C H p1 as → TabAt C H p2 bs → Small as → Small bs →
        (∀ H', Same H H' → Q (.bl true) H') → R { nx := fun _ H' => Q .non H', rt := Q } [v0, v1, v2, some (.ref ld), v4, some (.ref lo), v6, v7, some (.ref p1), some (.ref p2), v10, v11, v12] H := by
  have nd := c_right.nd
  have hgd' : (A.deeper (envOfC "_law_right" (defScope s_right) s.heap.objs.size f cdv)).guards = some [] := hgd
  have hr3 : Room 3 _ := hr.mono (by decide)
  refine ⟨_, pss_one (ps_ret (pe_cmpR op_eq (pe_callB (cr_repr hgd' hr.units) (by rfl) T.g_repr (by decide +kernel) (pa_cons (pe_lst (pa_cons (pe_cn (ok_told T) hr3 pass0 (pa_cons (pv 8) pa_nil)) (pa_cons (pe_cn (ok_told T) hr3 pass0 (pa_cons (pv 9) pa_nil)) pa_nil))) pa_nil))
        (pe_callB (cr_repr hgd' hr.units) (by rfl) T.g_repr (by decide +kernel) (pa_cons (pe_lst (pa_cons (pe_lst (pa_cons pe_bl (pa_cons (pv 3) (pa_cons (pe_callB call_len_seq (by rfl) T.g_len PySem.boot_len (pa_cons (pv 3) pa_nil)) pa_nil))))
          (pa_cons (pe_lst (pa_cons pe_bl (pa_cons (pv 5) (pa_cons (pe_callB call_len_seq (by rfl) T.g_len PySem.boot_len (pa_cons (pv 5) pa_nil)) pa_nil)))) pa_nil))) pa_nil)) (nomark _))), fun Q ld lo p1 p2 as bs v0 v1 v2 v4 v6 v7 v10 v11 v12 H hl ho T1 T2 SA SB q => ?_⟩
  have fine := rows_fine (dss := [as, bs]) (by show 2 ≤ 10; decide) (fun ds hd => by
    simp only [List.mem_cons, List.not_mem_nil, or_false] at hd
    rcases hd with rfl | rfl
    · exact SA
    · exact SB)
  refine ⟨_, rfl, p1, as, rfl, T1, fun l1 c1 H1 nl1 nc1 s1 hl1 hc1 => ?_⟩
  refine ⟨_, rfl, p2, bs, rfl, T2.same s1, fun l2 c2 H2 nl2 nc2 s2 hl2 hc2 => ⟨(by show 2 ≤ sizeLine; decide), fun u nu => ?_⟩⟩
  have su := same_new (o := .lst [.ref l1, .ref l2]) nu
  have hu : upd H2 u (.lst [.ref l1, .ref l2]) u = some (.lst [.ref l1, .ref l2]) := upd_same
  have R1 : RowAt u (upd H2 u (.lst [.ref l1, .ref l2])) (.ref l1) as as.length := ⟨l1, c1, rfl, ne_of_none (s2 _ _ hl1) nu, ne_of_none (s2 _ _ hc1) nu, su _ _ (s2 _ _ hl1), su _ _ (s2 _ _ hc1)⟩
  have R2 : RowAt u (upd H2 u (.lst [.ref l1, .ref l2])) (.ref l2) bs bs.length := ⟨l2, c2, rfl, ne_of_none hl2 nu, ne_of_none hc2 nu, su _ _ hl2, su _ _ hc2⟩
  have dp1 := rows_dp (K := K) (dss := [as, bs]) hu rfl (fun i y h => by
    match i, h with
    | 0, h => cases h; exact ⟨as, rfl, R1⟩
    | 1, h => cases h; exact ⟨bs, rfl, R2⟩
    | _ + 2, h => simp at h)
  have s03 := (s1.trans s2).trans su
  have hl := s03 _ _ hl
  have ho := s03 _ _ ho
  clear hl1 hc1 hl2 hc2 R1 R2 hu
  generalize upd H2 u (.lst [.ref l1, .ref l2]) = H3 at *
  refine ⟨u, _, rfl, dp1, fine.show_, fine.nodict, fine.depth, fine.size, ?_⟩
  refine ⟨_, rfl, _, rfl, ld, _, rfl, .inl (iL_seq hl), (by show 3 ≤ sizeLine; decide), fun r1 nr1 => ?_⟩
  have t1 := same_new (o := .lst [.bl true, .ref ld, .int ((as.map V.int).length : Nat)]) nr1
  refine ⟨_, rfl, _, rfl, lo, _, rfl, .inl (iL_seq (t1 _ _ ho)), (by show 3 ≤ sizeLine; decide), fun r2 nr2 => ⟨(by show 2 ≤ sizeLine; decide), fun x nx => ?_⟩⟩
  have t2 := same_new (o := .lst [.bl true, .ref lo, .int ((bs.map V.int).length : Nat)]) nr2
  have t3 := same_new (o := .lst [.ref r1, .ref r2]) nx
  have g1 := t2 _ _ (upd_same (H := H3) (a := r1) (o := .lst [.bl true, .ref ld, .int ((as.map V.int).length : Nat)]))
  have g2 := upd_same (H := upd H3 r1 (.lst [.bl true, .ref ld, .int ((as.map V.int).length : Nat)])) (a := r2) (o := .lst [.bl true, .ref lo, .int ((bs.map V.int).length : Nat)])
  have g3 := t2 _ _ (t1 _ _ hl)
  have g4 := t2 _ _ (t1 _ _ ho)
  have g5 := upd_same (H := upd (upd H3 r1 (.lst [.bl true, .ref ld, .int ((as.map V.int).length : Nat)])) r2 (.lst [.bl true, .ref lo, .int ((bs.map V.int).length : Nat)])) (a := x) (o := .lst [.ref r1, .ref r2])
  have R1 : RowAt x _ (.ref r1) as as.length := ⟨r1, ld, rfl, ne_of_none g1 nx, ne_of_none g3 nx, (t3 _ _ g1).trans (by rw [iL_len]), t3 _ _ g3⟩
  have R2 : RowAt x _ (.ref r2) bs bs.length := ⟨r2, lo, rfl, ne_of_none g2 nx, ne_of_none g4 nx, (t3 _ _ g2).trans (by rw [iL_len]), t3 _ _ g4⟩
  have dp2 := rows_dp (K := K) (dss := [as, bs]) (D := x) g5 rfl (fun i y h => by
    match i, h with
    | 0, h => cases h; exact ⟨as, rfl, R1⟩
    | 1, h => cases h; exact ⟨bs, rfl, R2⟩
    | _ + 2, h => simp at h)
  exact ⟨x, _, rfl, dp2, fine.show_, fine.nodict, fine.depth, fine.size, rfl, q_of (vb_true rfl) (q _ (s03.trans ((t1.trans t2).trans t3)))⟩
/-! ### _law_right, behind its lists of days -/
theorem rest_right (T : Txt K mg C B L fB) {f : Addr} {cdv : Value} {A : Around} {outer : List Env} {s : Shared} {H0 : Hp} {E : XK} (hgd : A.guards = some []) (hr : Room 9 (A.deeper (envOfC "_law_right" (defScope s_right) s.heap.objs.size f cdv))) :
    ∃ R : TS, PSs (cxOf CX0 P w K mg base nR "_law_right" (defScope s_right) f cdv A outer s H0 E).nox ((defBody s_right).drop 6) R ∧
      ∀ (Q : VK) (a ld lo : Addr) (as bs : List Int) (M : Int) (v1 v2 v4 v6 v7 v8 v9 v10 v11 v12 : Option V) (H : Hp), Pot H a → H ld = some (iL as) → H lo = some (iL bs) → ld ≠ a → lo ≠ a → OkT M as → OkT M bs → M + M ≤ 1000000 → Nat.lcm as.length bs.length ≤ 600 →
        (∀ H', But a H H' → Q (.bl true) H') → R { nx := fun _ H' => Q .non H', rt := Q } [some (.ref a), v1, v2, some (.ref ld), v4, some (.ref lo), v6, v7, v8, v9, v10, v11, v12] H := by
  obtain ⟨R, hR, qR⟩ := ret_right (P := P) (w := w) (base := base) (f := f) (cdv := cdv) (outer := outer) (s := s) (H0 := H0) (E := E) T hgd hr
  have nd := c_right.nd
  have hgd' : (A.deeper (envOfC "_law_right" (defScope s_right) s.heap.objs.size f cdv)).guards = some [] := hgd
  have hr1 : Room 1 _ := hr.mono (by decide)
  have hr3 : Room 3 _ := hr.mono (by decide)
  have hr5 : Room 5 _ := hr.mono (by decide)
  have hr7 : Room 7 _ := hr.mono (by decide)
  have hr8 : Room 8 _ := hr.mono (by decide)
  refine ⟨_, pss_cons (ps_par (i := 8) (j := 9) rfl nd rfl rfl (by decide) rfl rfl (pa_cons (pe_mk (ok_init T) hr5 T.gT pass0 (pa_cons (pv 3) pa_nil)) (pa_cons (pe_mk (ok_init T) hr5 T.gT pass0 (pa_cons (pv 5) pa_nil)) pa_nil)) (by rfl))
    (pss_cons (ps_if (PW.pt (pw_or (pt_not (pt_val (pe_cg hgd' (ok_joined T) hr7 (pa_cons (pv 8) (pa_cons (pv 3) (pa_cons (pv 9) (pa_cons (pv 5) pa_nil))))))) (pw_or1 (pt_not (pt_val (pe_cg hgd' (ok_joined T) hr7 (pa_cons (pv 9) (pa_cons (pv 5) (pa_cons (pv 8) (pa_cons (pv 3) pa_nil)))))))))) (pss_one (ps_ret pe_bl)) pss_nil)
    (pss_cons (ps_if (PW.pt (pw_or (pt_not (pt_val (pe_cg hgd' (ok_held T) hr8 (pa_cons (pv 8) (pa_cons (pv 3) (pa_cons (pv 9) (pa_cons (pv 5) pa_nil))))))) (pw_or1 (pt_not (pt_val (pe_cg hgd' (ok_held T) hr8 (pa_cons (pv 9) (pa_cons (pv 5) (pa_cons (pv 8) (pa_cons (pv 3) pa_nil)))))))))) (pss_one (ps_ret pe_bl)) pss_nil)
    (pss_cons (ps_if (PW.pt (pw_or (pt_not (pt_val (pe_cn (ok_back T) hr8 pass0 (pa_cons (pv 8) (pa_cons (pv 9) pa_nil))))) (pw_or1 (pt_not (pt_val (pe_cg hgd' (ok_joined T) hr7 (pa_cons (pv 8) (pa_cons (pv 3) (pa_cons (pv 8) (pa_cons (pv 3) pa_nil)))))))))) (pss_one (ps_ret pe_bl)) pss_nil)
    (pss_cons (ps_if (PW.pt (pw_and (pt_cmpR op_eq (pe_cn (ok_draw T) hr1 pass0 (pa_cons (pv 0) (pa_cons pe_int pa_nil))) pe_int (nomark _)) (pw_and1 (pt_not (pt_val (pe_cg hgd' (ok_long T) hr (pa_cons (pv 0) pa_nil))))))) (pss_one (ps_ret pe_bl)) pss_nil)
    hR)))), fun Q a ld lo as bs M v1 v2 v4 v6 v7 v8 v9 v10 v11 v12 H PA hl ho nl no OA OB hM hlcm q => ?_⟩
  have hlcm2 : Nat.lcm bs.length as.length ≤ 600 := by rw [Nat.lcm_comm]; exact hlcm
  have hlcm3 : Nat.lcm as.length as.length ≤ 600 := by rw [Nat.lcm_self]; exact OA.tab.most
  obtain ⟨o0, e0⟩ := PA.some
  -- the two Tables
  refine ⟨_, rfl, ?_⟩
  refine mk_tabR hl OA.tab fun p1 H1 n1 => ?_
  refine ⟨_, rfl, ?_⟩
  refine mk_tabR (n1.same _ _ ho) OB.tab fun p2 H2 n2 => ?_
  refine ⟨_, _, rfl, ?_⟩
  have X1 : TabX C H2 p1 a as := (n1.apart e0).but (Same.but n2.same)
  have X2 : TabX C H2 p2 a bs := n2.apart (n1.same _ _ e0)
  have s02 := n1.same.trans n2.same
  have hl := s02 _ _ hl
  have ho := s02 _ _ ho
  have PA := PA.same s02
  have b0 := Same.but (a := a) s02
  clear n1 n2 s02
  -- joined, twice
  refine ⟨_, rfl, _, rfl, _, rfl, _, rfl, as, bs, ⟨p1, ld, p2, lo, _, _, rfl, X1.at, hl, X2.at, ho, OA, OB, hlcm⟩, fun H3 s3 => ⟨true, rfl, iteF ?_⟩⟩
  have X1 := X1.but (Same.but s3)
  have X2 := X2.but (Same.but s3)
  have hl := s3 _ _ hl
  have ho := s3 _ _ ho
  have PA := PA.same s3
  have b0 := b0.trans (Same.but s3)
  clear s3
  refine ⟨_, rfl, _, rfl, _, rfl, _, rfl, bs, as, ⟨p2, lo, p1, ld, _, _, rfl, X2.at, ho, X1.at, hl, OB, OA, hlcm2⟩, fun H3 s3 => ⟨true, rfl, iteF ?_⟩⟩
  have X1 := X1.but (Same.but s3)
  have X2 := X2.but (Same.but s3)
  have hl := s3 _ _ hl
  have ho := s3 _ _ ho
  have PA := PA.same s3
  have b0 := b0.trans (Same.but s3)
  clear s3
  -- held, twice
  refine ⟨_, rfl, _, rfl, _, rfl, _, rfl, as, bs, ⟨p1, ld, p2, lo, _, _, rfl, X1.at, hl, X2.at, ho, OA, OB, hlcm⟩, fun H3 s3 => ⟨true, rfl, iteF ?_⟩⟩
  have X1 := X1.but (Same.but s3)
  have X2 := X2.but (Same.but s3)
  have hl := s3 _ _ hl
  have ho := s3 _ _ ho
  have PA := PA.same s3
  have b0 := b0.trans (Same.but s3)
  clear s3
  refine ⟨_, rfl, _, rfl, _, rfl, _, rfl, bs, as, ⟨p2, lo, p1, ld, _, _, rfl, X2.at, ho, X1.at, hl, OB, OA, hlcm2⟩, fun H3 s3 => ⟨true, rfl, iteF ?_⟩⟩
  have X1 := X1.but (Same.but s3)
  have X2 := X2.but (Same.but s3)
  have hl := s3 _ _ hl
  have ho := s3 _ _ ho
  have PA := PA.same s3
  have b0 := b0.trans (Same.but s3)
  clear s3
  -- back; joined with itself
  refine ⟨_, rfl, _, rfl, p1, p2, as, bs, M, rfl, X1.at, X2.at, OA, OB, hM, hlcm, fun H3 s3 => ⟨true, rfl, iteF ?_⟩⟩
  have X1 := X1.but (Same.but s3)
  have X2 := X2.but (Same.but s3)
  have hl := s3 _ _ hl
  have ho := s3 _ _ ho
  have PA := PA.same s3
  have b0 := b0.trans (Same.but s3)
  clear s3
  refine ⟨_, rfl, _, rfl, _, rfl, _, rfl, as, as, ⟨p1, ld, p1, ld, _, _, rfl, X1.at, hl, X1.at, hl, OA, OA, hlcm3⟩, fun H3 s3 => ⟨true, rfl, iteF ?_⟩⟩
  have X1 := X1.but (Same.but s3)
  have X2 := X2.but (Same.but s3)
  have hl := s3 _ _ hl
  have ho := s3 _ _ ho
  have PA := PA.same s3
  have b0 := b0.trans (Same.but s3)
  clear s3
  -- if draw(4) == 0 and not long
  refine ⟨_, rfl, a, 4, rfl, PA, by decide, by decide, fun r H4 hr4 b4 P4 => ⟨rfl, _, rfl, ?_⟩⟩
  have X1 := X1.but b4
  have X2 := X2.but b4
  have hl := b4 _ _ hl nl
  have ho := b4 _ _ ho no
  have b0 := b0.trans b4
  by_cases e : r = 0
  · refine iteD (by rw [e]; rfl) ⟨_, rfl, a, rfl, P4, fun H5 b5 => ⟨true, rfl, iteF ?_⟩⟩
    exact qR Q ld lo p1 p2 as bs _ _ _ _ _ _ _ _ _ H5 (b5 _ _ hl nl) (b5 _ _ ho no) (X1.but b5).at (X2.but b5).at OA.small2 OB.small2 fun H' s' => q H' ((b0.trans b5).trans (Same.but s'))
  · refine iteDn (fun z => e (by have := V.int.inj z; omega)) ?_
    exact qR Q ld lo p1 p2 as bs _ _ _ _ _ _ _ _ _ H4 hl ho X1.at X2.at OA.small2 OB.small2 fun H' s' => q H' (b0.trans (Same.but s'))
end
end K13
set_option Elab.async false
set_option linter.all false
set_option maxRecDepth 100000
set_option maxHeartbeats 8000000
namespace K13
open PySem PySem.Spec PyProof.Rows L2
theorem lcm_mul_le {a b : Nat} (ha : 1 ≤ a) (hb : 1 ≤ b) : Nat.lcm a b ≤ a * b := Nat.le_of_dvd (Nat.mul_pos ha hb) (Nat.lcm_dvd (Nat.dvd_mul_right a b) (Nat.dvd_mul_left b a))
section
variable {P : Program} {w : World} {K : PySem.W.Frag} {mg : Str → Option Value} {base : Heap} {C B L fB : Addr}
theorem bkR {scope : Scope} {own : List (Str × Nat)} (h : blkC nR (defScope s_right) scope own = true) : BlkOk nR (defScope s_right) scope own := blkOk_by h
/-! ### _law_right -/
theorem ok_right (T : Txt K mg C B L fB) : OkG P w K mg base "_law_right" 10 ["_law_pot_here"] spLong := by
  refine T.d_right.okG fun f fd F => F.okG c_right (fun vs H Q E h => ?_) (fun cdv A outer s H vs Q E hgd hr h => ?_)
  · obtain ⟨a, rfl, _⟩ := h
    rfl
  · obtain ⟨a, rfl, PA, q⟩ := h
    obtain ⟨R, hR, qR⟩ := rest_right (P := P) (w := w) (base := base) (f := f) (cdv := cdv) (outer := outer) (s := s) (H0 := H) (E := E) T hgd hr
    have nd := c_right.nd
    have hr1 : Room 1 _ := hr.mono (by decide)
    have hr2 : Room 2 _ := hr.mono (by decide)
    have hr3 : Room 3 _ := hr.mono (by decide)
    refine ⟨_, pss_cons (ps_par (i := 1) (j := 2) rfl nd rfl rfl (by decide) rfl rfl (pa_cons (pe_cn (ok_pick T) hr2 pass0 (pa_cons (pv 0) (pa_cons (pe_lst (pa_cons pe_int (pa_cons pe_int (pa_cons pe_int (pa_cons pe_int (pa_cons pe_int (pa_cons pe_int (pa_cons pe_int (pa_cons pe_int (pa_cons pe_int pa_nil)))))))))) pa_nil)))
          (pa_cons (pe_op op_sub (pe_cn (ok_draw T) hr1 pass0 (pa_cons (pv 0) (pa_cons pe_int pa_nil))) pe_int) pa_nil)) (by rfl))
      (pss_cons (ps_set (i := 3) nd rfl (Or.inr rfl) (pe_cn (ok_lDays T) hr3 pass0 (pa_cons (pv 0) (pa_cons (pv 1) (pa_cons (pv 2) pa_nil)))))
      (pss_cons (ps_set (i := 4) nd rfl (Or.inl rfl) (pe_cn (ok_draw T) hr1 pass0 (pa_cons (pv 0) (pa_cons pe_int pa_nil))))
      (pss_cons (ps_set (i := 5) nd rfl (Or.inl rfl) (pe_cn (ok_lDays T) hr3 pass0 (pa_cons (pv 0) (pa_cons (pe_cn (ok_pick T) hr2 pass0 (pa_cons (pv 0) (pa_cons (pe_lst (pa_cons pe_int (pa_cons pe_int (pa_cons pe_int (pa_cons pe_int (pa_cons pe_int (pa_cons pe_int (pa_cons pe_int pa_nil)))))))) pa_nil)))
          (pa_cons (pe_op op_sub (pe_op op_add (pv 2) (pe_cn (ok_draw T) hr1 pass0 (pa_cons (pv 0) (pa_cons pe_int pa_nil)))) pe_int) pa_nil)))))
      (pss_cons (ps_if (pt_cmpR op_eq (pv 4) pe_int (nomark _)) (pss_one (ps_setLg (i := 5) (own := [("_law_day", 10)]) (g := gName 10) (tt := tYes) rfl nd rfl rfl (sw_true rfl rfl rfl (by decide +kernel)) (pi_range1 rfl T.g_range (pa_cons (pe_op op_mul pe_int (pv 1)) pa_nil)) (bkR (by decide +kernel))
          (fun _ _ _ _ _ => pg_name (i := 10) nd rfl (Or.inl rfl)) (fun _ _ _ _ _ => pts_nil) (fun _ _ _ _ _ => pe_cn (ok_lOn T) hr1 pass0 (pa_cons (pv 3) (pa_cons (pv 10) pa_nil))))) pss_nil)
      (pss_cons (ps_if (pt_cmpR op_eq (pv 4) pe_int (nomark _)) (pss_cons (ps_set (i := 6) nd rfl (Or.inr rfl) (pe_cn (ok_draw T) hr1 pass0 (pa_cons (pv 0) (pa_cons (pv 1) pa_nil))))
        (pss_cons (ps_setLg (i := 7) (own := [("_law_at", 11), ("_law_served", 12)]) (g := gTup K 2 (gCons (gName 11) (gCons (gName 12) gNil))) (tt := tYes) rfl nd rfl rfl (sw_true rfl rfl rfl (by decide +kernel)) (pi_enum rfl T.g_enumerate (pa_cons (pv 3) pa_nil)) (bkR (by decide +kernel))
          (fun _ _ _ _ _ => pg_tupK rfl rfl (pgs_cons (pg_name (i := 11) nd rfl (Or.inl rfl)) (pgs_cons (pg_name (i := 12) nd rfl (Or.inl rfl)) pgs_nil))) (fun _ _ _ _ _ => pts_nil)
          (fun _ _ _ _ _ => pe_ifExp (pt_cmpR op_ge (pv 11) (pv 6) (nomark _)) (pe_op op_add (pv 12) pe_int) (pv 12)))
        (pss_one (ps_set (i := 5) nd rfl (Or.inl rfl) (pe_ifExp (pt_cmpR op_le (pe_ix ix_list (pv 7) (pe_un un_neg pe_int) (fun _ _ => rfl)) (pe_op op_add (pe_ix ix_list (pv 7) pe_int (fun _ _ => rfl)) (pv 1)) (nomark _)) (pv 7) (pv 3)))))) pss_nil)
      hR))))), ?_⟩
    -- one, first
    refine ⟨_, rfl, (by show 9 ≤ sizeLine; decide), fun z nz => ?_⟩
    have sz := same_new (o := iL [1, 2, 3, 4, 5, 6, 7, 8, 12]) nz
    obtain ⟨o0, e0⟩ := PA.some
    refine ⟨a, z, [1, 2, 3, 4, 5, 6, 7, 8, 12], rfl, PA.same sz, upd_same, (ne_of_none e0 nz).symm, by decide, by decide, fun r H1 hr' b1 P1 => ?_⟩
    obtain ⟨one, rfl, o1, o2⟩ : ∃ n : Nat, r = (n : Int) ∧ 1 ≤ n ∧ n ≤ 12 := by
      simp only [List.mem_cons, List.not_mem_nil, or_false] at hr'
      exact ⟨r.toNat, by omega, by omega, by omega⟩
    have b01 := (Same.but sz).trans b1
    clear hr' b1 sz nz
    refine ⟨_, rfl, a, 19, rfl, P1, by decide, by decide, fun d1 H2 hd1 b2 P2 => ⟨_, _, rfl, rfl, _, _, rfl, ?_⟩⟩
    -- days_here, way
    refine ⟨_, rfl, _, rfl, _, rfl, a, one, _, rfl, P2, o1, by omega, fun ld as H3 nld b3 P3 hld lenA TA nearA => ?_⟩
    obtain ⟨o2', e2⟩ := P2.some
    have nla : ld ≠ a := (ne_of_none e2 nld).symm
    refine ⟨_, rfl, a, 4, rfl, P3, by decide, by decide, fun way H4 hway b4 P4 => ?_⟩
    have hld := b4 _ _ hld nla
    -- others
    refine ⟨_, rfl, _, rfl, (by show 7 ≤ sizeLine; decide), fun z nz => ?_⟩
    have sz := same_new (o := iL [1, 2, 3, 4, 6, 9, 10]) nz
    obtain ⟨o4, e4⟩ := P4.some
    refine ⟨a, z, [1, 2, 3, 4, 6, 9, 10], rfl, P4.same sz, upd_same, (ne_of_none e4 nz).symm, by decide, by decide, fun r H5 hr' b5 P5 => ?_⟩
    obtain ⟨two, rfl, t1, t2⟩ : ∃ n : Nat, r = (n : Int) ∧ 1 ≤ n ∧ n ≤ 10 := by
      simp only [List.mem_cons, List.not_mem_nil, or_false] at hr'
      exact ⟨r.toNat, by omega, by omega, by omega⟩
    have hld := b5 _ _ (sz _ _ hld) nla
    have b05 := (((b01.trans b2).trans b3).trans b4).trans ((Same.but sz).trans b5)
    clear hr' b5 sz nz b01 b2 b3 b4
    refine ⟨_, rfl, _, rfl, a, 9, rfl, P5, by decide, by decide, fun d2 H6 hd2 b6 P6 => ⟨_, _, rfl, rfl, _, _, rfl, rfl, ?_⟩⟩
    refine ⟨a, two, _, rfl, P6, t1, by omega, fun lo bs H7 nlo b7 P7 hlo lenB TB nearB => ?_⟩
    obtain ⟨o6, e6⟩ := P6.some
    have noa : lo ≠ a := (ne_of_none e6 nlo).symm
    have hld := b7 _ _ (b6 _ _ hld nla) nla
    have b07 := (b05.trans b6).trans b7
    have nA : ∀ j : Nat, j < as.length → -(100 : Int) ≤ as.getD j 0 ∧ as.getD j 0 ≤ 100 := fun j hj => by have := nearA j hj; omega
    have OA : OkT 701 as := (okT_of TA (by decide) nA).wk (by decide) (by decide)
    have OB : OkT 701 bs := (okT_of (B := 100) TB (by decide) fun j hj => by have := nearB j hj; omega).wk (by decide) (by decide)
    clear b05 b6 b7 nearA nearB e0 e2 e4 e6
    -- if way == 1
    refine ⟨_, rfl, rfl, _, rfl, ?_⟩
    by_cases w1 : way = 1
    · refine iteD (by rw [w1]; rfl) ?_
      refine ⟨_, rfl, _, _, rfl, rfl, .inl (by omega), _, rfl, by omega, by omega, lcR (fun i => V.int (On as (i : Int))) (by omega) (fun _ => rfl) (fun i hi H8 R s8 k => ?_) (fun D H8 nD s8 hD => ?_)⟩
      · exact ⟨_, rfl, _, rfl, ld, as, _, rfl, s8 _ _ hld, TA.pos, by omega, by omega, q_of (by rw [Int.zero_add]) (k _ (Same.refl _))⟩
      rw [tab_vals (On as), show ((2 : Int) * (one : Int)).toNat = 2 * one by omega] at hD
      refine ⟨_, rfl, rfl, _, rfl, iteDn (fun z => by have := V.int.inj z; omega) ?_⟩
      obtain ⟨o7, e7⟩ := P7.some
      have dv : as.length ∣ 2 * one := by rw [lenA]; exact Nat.dvd_mul_left _ _
      have OD : OkT 701 (tabF (On as) (2 * one)) := okTab (OA.rule.wide (by omega) dv) (by omega) (by decide)
      exact qR Q a ld D as _ 701 _ _ _ _ _ _ _ _ _ _ H8 (P7.same s8) (s8 _ _ hld) hD nla (ne_of_none e7 nD).symm OA OD (by decide) (by rw [tabF_len]; exact Nat.le_trans (lcm_right dv (by omega)) (by omega)) fun H' b' => q H' ((b07.trans (Same.but s8)).trans b')
    · refine iteDn (fun z => w1 (by have := V.int.inj z; omega)) ?_
      refine ⟨_, rfl, rfl, _, rfl, ?_⟩
      by_cases w2 : way = 2
      · refine iteD (by rw [w2]; rfl) ?_
        refine ⟨_, rfl, _, rfl, a, one, rfl, P7, o1, by omega, fun pl H8 hpl b8 P8 => ?_⟩
        have hld := b8 _ _ hld nla
        refine ⟨_, rfl, ld, _, rfl, iL_seq hld, lcE (riseF as pl) (iL_seq hld) (by omega) rfl (fun _ _ => rfl) (fun i hi H9 R s9 k => ?_) (fun D H9 nD s9 hD => ?_)⟩
        · refine ⟨_, rfl, _, rfl, _, _, rfl, rfl, _, rfl, ?_⟩
          have e : riseF as pl (i : Int) = if (pl : Int) ≤ (i : Int) then as.getD i 0 + 1 else as.getD i 0 := by
            unfold riseF
            rw [on_nat hi]
          by_cases c : (pl : Int) ≤ (i : Int)
          · refine iteD c ⟨_, rfl, _, _, rfl, rfl, q_of ?_ (k _ (Same.refl _))⟩
            rw [e, if_pos c]
          · refine iteDn c ⟨_, rfl, q_of ?_ (k _ (Same.refl _))⟩
            rw [e, if_neg c]
        have l1 := TA.pos
        have hld := s9 _ _ hld
        have lt : (tabF (riseF as pl) as.length).length = as.length := tabF_len _ _
        have b09 := (b07.trans b8).trans (Same.but s9)
        obtain ⟨o8, e8⟩ := P8.some
        have nDa : D ≠ a := (ne_of_none e8 nD).symm
        refine ⟨_, rfl, _, rfl, D, _, _, _, rfl, rfl, iL_seq hD, at_end rfl (by rw [iL_len, lt]; omega) (by rw [iL_len, lt]; exact iL_at (show as.length - 1 < (tabF (riseF as pl) as.length).length by omega)), _, rfl, D, _, _, _, rfl, rfl, iL_seq hD, at_of (j := 0) rfl (iL_at (by omega)), _, rfl, _, _, rfl, rfl, _, _, rfl, rfl, _, rfl, ?_⟩
        by_cases c : (tabF (riseF as pl) as.length).getD (as.length - 1) 0 ≤ (tabF (riseF as pl) as.length).getD 0 0 + (one : Int)
        · refine iteD c ⟨_, rfl, ?_⟩
          have TD := rise_tab TA (k := pl) (by rw [lenA]; rw [lenA] at c; exact c)
          have OD : OkT 701 (tabF (riseF as pl) as.length) := okT_of (B := 101) TD (by decide) (rise_near nA)
          exact qR Q a ld D as _ 701 _ _ _ _ _ _ _ _ _ _ H9 (P8.same s9) hld hD nla nDa OA OD (by decide) (by rw [lt, Nat.lcm_self]; exact TA.most) fun H' b' => q H' (b09.trans b')
        · refine iteDn c ⟨_, rfl, ?_⟩
          exact qR Q a ld ld as as 701 _ _ _ _ _ _ _ _ _ _ H9 (P8.same s9) hld hld nla nla OA OA (by decide) (by rw [Nat.lcm_self]; exact TA.most) fun H' b' => q H' (b09.trans b')
      · refine iteDn (fun z => w2 (by have := V.int.inj z; omega)) ?_
        exact qR Q a ld lo as bs 701 _ _ _ _ _ _ _ _ _ _ H7 P7 hld hlo nla noa OA OB (by decide) (Nat.le_trans (lcm_mul_le TA.pos TB.pos) (by rw [lenA, lenB]; exact Nat.le_trans (Nat.mul_le_mul o2 t2) (by decide))) fun H' b' => q H' (b07.trans b')
end
end K13
set_option Elab.async false
set_option linter.all false
set_option maxRecDepth 100000
set_option maxHeartbeats 8000000
namespace K13
open PySem PySem.Spec PyProof.Rows L2
section
variable {P : Program} {w : World} {K : PySem.W.Frag} {mg : Str → Option Value} {base : Heap} {C B L fB : Addr}
/-! ### law -/
def spLaw (K : PySem.W.Frag) : Sp := fun vs H Q _ => ∃ (a : Addr) (ns : List Int), vs = [.ref a] ∧ SqL K H a (ns.map V.int) ∧ ∀ H', Q (.bl true) H'
theorem ok_law (T : Txt K mg C B L fB) {fa : Addr} {fd : FuncData} (F : Fun K "law" "law" s_law fa fd) : FnG P w K mg base CX0 11 fa fd ["_law_script"] (spLaw K) := by
  refine F.okG c_law (fun vs H Q E h => ?_) (fun cdv A outer s H vs Q E hgd hr h => ?_)
  · obtain ⟨a, ns, rfl, _⟩ := h
    rfl
  · obtain ⟨a, ns, rfl, ha, q⟩ := h
    have nd := c_law.nd
    have hgd' : (A.deeper (envOfC "law" (defScope s_law) s.heap.objs.size fa cdv)).guards = some [] := hgd
    have hr1 : Room 1 _ := hr.mono (by decide)
    refine ⟨_, pss_one (ps_ret (pe_callB (cr_all rfl) (by rfl) T.g_all (by decide +kernel) (pa_cons (pe_lg (own := [("_law_k", 1)]) (g := gName 1) (tt := tYes) rfl nd
        (pi_range1 rfl T.g_range (pa_cons (pe_callB (call_max2 rfl) (by rfl) T.g_max (by decide +kernel) (pa_cons pe_int (pa_cons (pe_callB (call_min2 rfl) (by rfl) T.g_min (by decide +kernel) (pa_cons pe_int (pa_cons (pe_callB call_len_seq (by rfl) T.g_len PySem.boot_len (pa_cons (pv 0) pa_nil)) pa_nil))) pa_nil))) pa_nil))
        (blkOk_by (N := ["_law_script", "_law_k"]) (sc := defScope s_law) (by decide +kernel)) (fun _ _ _ _ _ => pg_name (i := 1) nd rfl (Or.inl rfl)) (fun _ _ _ _ _ => pts_nil)
        (fun _ _ _ _ _ => pe_cg hgd' (ok_right T) hr (pa_cons (pe_cn (ok_pot T) hr1 pass0 (pa_cons (pv 0) (pa_cons (pv 1) pa_nil))) pa_nil))) pa_nil))), ?_⟩
    refine ⟨_, rfl, a, _, rfl, .inl ha, _, _, rfl, _, _, rfl, ?_⟩
    obtain ⟨t, et, t0, t1⟩ : ∃ t : Int, (if (if (((ns.map V.int).length : Nat) : Int) < 3 then (((ns.map V.int).length : Nat) : Int) else 3) > 1 then (if (((ns.map V.int).length : Nat) : Int) < 3 then (((ns.map V.int).length : Nat) : Int) else 3) else 1) = t ∧ 1 ≤ t ∧ t ≤ 3 := by
      refine ⟨_, rfl, ?_⟩
      split <;> split <;> omega
    rw [et]
    refine ⟨_, rfl, by omega, by omega, lcR (fun _ => V.bl true) (by omega) (fun _ => rfl) (fun i hi H2 R s2 k => ?_) (fun D H2 nD s2 hD => ?_)⟩
    · refine ⟨_, rfl, _, rfl, a, ns, i, (by rw [Int.zero_add]; rfl), s2.seq ha, by omega, fun l H3 nl s3 P3 => ?_⟩
      refine ⟨l, rfl, P3, fun H4 b4 => k H4 fun b o e => b4 _ _ (s3 _ _ e) (ne_of_none e nl)⟩
    · refine ⟨D, List.replicate t.toNat true, rfl, SqL.of (by rw [hD, map_const_all, List.length_range, rep_bools]), q_of ?_ (q _)⟩
      rw [rep_all]
end
end K13
set_option Elab.async false
set_option linter.all false
set_option maxRecDepth 100000
set_option maxHeartbeats 4000000
/-! The end for a def that is shown only where nothing guards (L2.law_call asks for every surrounding). -/
namespace K13
open PySem PySem.Spec PyProof.Rows L2
/-- what is tracked at the start: the script, if the written part does not hold it -/
def onlyS (K : PySem.W.Frag) (a : Addr) (o : Obj) (xs : List V) : Hp := fun b => if b = a ∧ K.lookup a = none then some (.frz o (.lst xs)) else none
section
variable {K : PySem.W.Frag} {a b : Addr} {o : Obj} {xs : List V} {u : HO}
theorem onlyS_some (h : onlyS K a o xs b = some u) : b = a ∧ K.lookup a = none ∧ u = .frz o (.lst xs) := by
  by_cases c : b = a ∧ K.lookup a = none
  · have e : onlyS K a o xs b = some (.frz o (.lst xs)) := if_pos c
    exact ⟨c.1, c.2, Option.some.inj (h.symm.trans e)⟩
  · have e : onlyS K a o xs b = none := if_neg c
    rw [e] at h
    cases h
theorem onlyS_none (h : b ≠ a ∨ K.lookup a ≠ none) : onlyS K a o xs b = none := if_neg fun c => h.elim (fun n => n c.1) fun n => n c.2
end
section
variable {P : Program} {w : World} {K : PySem.W.Frag} {mg mb : Str → Option Value} {fa a : Addr} {fd : FuncData} {s₁ : Shared} {vs : List Value} {ns : List Int}
theorem law_end (hK : K.In s₁.heap) (hmain : s₁.heap.Ns mainGlobals mg) (hblt : s₁.heap.Ns builtinsNs mb) (hboot : ∀ x : Str, x ≠ "__name__" → mb x = bootBuiltins x) (hno : s₁.heap.NoLimit) (hgens : s₁.gens = #[])
    (hobj : s₁.heap.get? a = some { cls := .type "list", data := .seq vs.toArray }) (hints : IntsAre vs ns) (hlen : ns.length ≤ sizeLine)
    (hF : ∀ base : Heap, K.In base → base.Ns mainGlobals mg → FnG P w K mg base CX0 11 fa fd ["_law_script"] (spLaw K)) (hbinds : ∀ (s : Shared) (u : Value), BindsTo s fd ⟨[u], []⟩ [("_law_script", u)]) :
    codeAny (model P w) callerA (.call (.ref fa) ⟨[.ref a], []⟩) (fun r s' => r = .ok (.ret (.bool true)) ∧ OldK s₁.heap s'.heap ∧ s'.os = s₁.os ∧ AllBare s'.gens) s₁ := by
  have hvals := vals_ints hints
  have hsize := hints.length
  generalize hS : onlyS K a { cls := .type "list", data := .seq vs.toArray } (ns.map V.int) = S
  -- what is not tracked stays in the heap that is handed down
  have still : ∀ {b : Addr} {u : Obj}, s₁.heap.get? b = some u → S b = none → (hidT s₁.heap S).get? b = some u := fun g n => hidT_get g n
  have kept : ∀ {b : Addr} {u : Obj}, K.lookup b = some u → (hidT s₁.heap S).get? b = some u := fun {b u} g => still (hK _ _ g) (by
    subst hS
    by_cases c : b = a
    · subst c
      exact onlyS_none (.inr (by rw [g]; exact Option.some_ne_none u))
    · exact onlyS_none (.inl c))
  have names : ∀ {b : Addr} {m : Str → Option Value}, s₁.heap.Ns b m → (hidT s₁.heap S).Ns b m := fun {b m} n => by
    obtain ⟨u, es, ep, g, d, more⟩ := n
    refine ⟨u, es, ep, still g ?_, d, more⟩
    subst hS
    refine onlyS_none (.inl fun c => ?_)
    subst c
    rw [hobj] at g
    cases g
    cases d
  have holds : HOk P w S s₁.heap := fun b u g => by
    subst hS
    obtain ⟨rfl, _, rfl⟩ := onlyS_some g
    exact ⟨hobj, by rw [List.length_map]; exact hlen, vs, _, hvals, hobj⟩
  have script : SqL K S a (ns.map V.int) := by
    subst hS
    cases c : K.lookup a with
    | none => exact .inl (.inr ⟨_, if_pos ⟨rfl, c⟩⟩)
    | some u =>
      have g := hK _ _ c
      rw [hobj] at g
      cases g
      exact .inr ⟨_, vs.toArray, _, c, rfl, rfl, rfl, by rw [List.size_toArray, hsize]; exact hlen, by simpa using hvals⟩
  have inK : K.In (hidT s₁.heap S) := fun _ _ g => kept g
  obtain ⟨mc, hmc1, hmc2⟩ := hno
  have around : Env0 P w K mg (hidT s₁.heap S) callerA [] s₁ S :=
    { frames := rfl, mod := ⟨inK, names hmain, ⟨mb, names hblt, hboot⟩, mc, names hmc1, hmc2⟩, bs := fun _ _ g => of_hidT g, bsz := Nat.le_of_eq (hidT_size _ _), funs := trivial,
      frf := fun b m => absurd (show b ∈ ([] : List Addr) from m) List.not_mem_nil, hok := holds, bare := .of_eq hgens }
  have told : spLaw K [.ref a] S (fun v _ => v = .bl true) (fun _ _ _ => False) := ⟨a, ns, rfl, script, fun _ => rfl⟩
  have ran := (hF _ inK (names hmain)).run callerA [] s₁ S ⟨[.ref a], []⟩ [.ref a] [.ref a] _ _ rfl ⟨rfl, by decide, by decide⟩ around (hbinds s₁ (.ref a)) (.cons rfl .nil) told
  refine codeAny_mono ran fun r s' got => ?_
  match r, got with
  | .error _, got => exact False.elim got
  | .ok .next, got => exact False.elim got
  | .ok .brk, got => exact False.elim got
  | .ok .cont, got => exact False.elim got
  | .ok (.ret u), got =>
    obtain ⟨v, S', hos, hbare, un, hok', rel, yes⟩ := got
    have yes : v = .bl true := yes
    subst yes
    have rel : u = Value.bool true := rel
    subst rel
    refine ⟨rfl, OldK.of_keep fun b u g => ?_, hos, hbare⟩
    cases c : S b with
    | none => exact un.keep b u g c (fun m => absurd (show b ∈ ([] : List Addr) from m) List.not_mem_nil) List.not_mem_nil
    | some x =>
      subst hS
      obtain ⟨rfl, _, rfl⟩ := onlyS_some c
      rw [hobj] at g
      cases g
      exact (hok' _ _ (un.frzs _ _ _ c)).1
end
/-- the case that k_head leaves -/
theorem walk_end {l : PySem.W.OpenLaw} {q : Program} {loose : List Str} {XP : (Str → Option Value) → Heap → Prop} {YP : World → Heap → Prop} {d : DefRec} {K : Params → PySem.W.Frag} (hn : l.most = some 63) (hdf : d.params.defaults = [])
    (hY : ∀ (w : World) (h : Heap), YP w h → (K w.params).In h)
    (F : ∀ (w : World) (mg : Str → Option Value) (fa : Addr) (h : Heap), (K w.params).In h → h.Ns mainGlobals mg → mg d.name = some (.ref fa) →
      ∃ fd : FuncData, (∀ (s : Shared) (u : Value), BindsTo s fd ⟨[u], []⟩ [("_law_script", u)]) ∧
        ∀ base : Heap, (K w.params).In base → base.Ns mainGlobals mg → FnG l.prog w (K w.params) mg base CX0 11 fa fd ["_law_script"] (spLaw (K w.params))) :
    PySem.W.WalkO q loose XP YP l.row.toRowW d [] (fun f vs => PySem.call f vs) := by
  refine Att.attach_call hn hdf fun w s₀ s₁ mg mb fa o pm cd doc a vs ns ground y _ _ _ hname hobj hints hlen hgens => ?_
  have inK := hY w _ y
  obtain ⟨fd, hbinds, hF⟩ := F w mg fa _ inK ground.T.g hname
  exact law_end inK ground.T.g ground.T.b ground.T.builtins ground.T.nolimit hgens hobj hints (Nat.le_trans hlen (by decide)) hF hbinds
end K13
set_option Elab.async false
set_option linter.all false
set_option maxRecDepth 100000
set_option maxHeartbeats 4000000
/-! The facts of the top, one by one, into Txt. -/
namespace K13
open PySem PySem.Spec PyProof.Rows L2
def BindAll (x q : Str) (st : Stmt) (ps : List Str) : Prop := ∀ (kV doc pm : Value) (an : Option Addr) (cdv ct : Value) (us : List Value), us.length = ps.length → bindArgs (PySem.W.fnOf x q (defArgs st) (defBody st) (defScope st) .none kV doc pm an cdv ct) ⟨us, []⟩ = pure (ps.zip us)
def BindSwap (x : Str) (st : Stmt) : Prop := ∀ (kV doc pm : Value) (an : Option Addr) (cdv ct u v : Value), bindArgs (PySem.W.fnOf x x (defArgs st) (defBody st) (defScope st) .none kV doc pm an cdv ct) ⟨[], [("other_table", u), ("table", v)]⟩ = (pure [("table", v), ("other_table", u)] : Sem (List (Str × Value)))
section
variable {K : PySem.W.Frag} {h : Heap} {mg : Str → Option Value} {x q : Str} {st : Stmt} {ps : List Str} {f p C : Addr} {od an : Option Addr} {sl : Array (Option Value)} {oc kV dc pm cd ct : Value} {rest : List Value}
theorem there_mk (X : K.In h) (G : h.Ns mainGlobals mg) (b : BindAll x x st ps) (a : PySem.W.nsIn K mainGlobals x = some (some (.ref f)))
    (l : K.lookup f = some ⟨oc, od, .func (PySem.W.fnOf x x (defArgs st) (defBody st) (defScope st) .none kV dc pm an cd ct), sl⟩) (c : PySem.W.codeIn K cd x = true) (k : PySem.W.keepIn K (.ref f) = true) : There K mg x st ps := by
  have F := fun_mk (st := st) l c k
  exact ⟨f, _, PySem.W.mg_of X G a, F, F.binds b⟩
theorem there2_mk (X : K.In h) (G : h.Ns mainGlobals mg) (b : BindAll x x st ["table", "other_table"]) (b2 : BindSwap x st) (a : PySem.W.nsIn K mainGlobals x = some (some (.ref f)))
    (l : K.lookup f = some ⟨oc, od, .func (PySem.W.fnOf x x (defArgs st) (defBody st) (defScope st) .none kV dc pm an cd ct), sl⟩) (c : PySem.W.codeIn K cd x = true) (k : PySem.W.keepIn K (.ref f) = true) : There2 K mg x st := by
  have F := fun_mk (st := st) l c k
  exact ⟨f, _, PySem.W.mg_of X G a, F, F.binds b, fun s u v => .of_eq (b2 _ _ _ _ _ _ u v)⟩
theorem mthere_mk (b : BindAll x q st ps) (a : PySem.W.findIn K (.ref C) x = some (some (.ref f))) (i : PySem.W.isFn K (.ref f) = true)
    (l : K.lookup f = some ⟨oc, od, .func (PySem.W.fnOf x q (defArgs st) (defBody st) (defScope st) .none kV dc pm an cd ct), sl⟩) (c : PySem.W.codeIn K cd q = true) (k : PySem.W.keepIn K (.ref f) = true) : MThere K C x q st ps := by
  have F := fun_mk (st := st) l c k
  exact ⟨f, _, ⟨a, i, k⟩, F, F.binds b⟩
theorem minit_mk (b : BindAll "__init__" "Table.__init__" st ps) (m : PySem.W.makesIn K C = true) (a : PySem.W.findIn K (.ref C) "__init__" = some (some (.ref f))) (i : PySem.W.isFn K (.ref f) = true) (kc : PySem.W.keepIn K (.ref C) = true)
    (l : K.lookup f = some ⟨oc, od, .func (PySem.W.fnOf "__init__" "Table.__init__" (defArgs st) (defBody st) (defScope st) .none kV dc pm an cd ct), sl⟩) (c : PySem.W.codeIn K cd "Table.__init__" = true) (k : PySem.W.keepIn K (.ref f) = true) : MInit K C st ps := by
  have F := fun_mk (st := st) l c k
  exact ⟨f, _, ⟨m, a, i, kc⟩, F, F.binds b⟩
theorem mprop_mk (b : BindAll x q st ps) (a : PySem.W.findIn K (.ref C) x = some (some (.ref p))) (g : PySem.W.specialIn K (.ref p) "__get__" = some (some (.builtin "property.__get__"))) (t : PySem.W.takesIn K (.ref p) = some true) (r : PySem.W.recIn K p "property" = some (.ref f :: rest))
    (l : K.lookup f = some ⟨oc, od, .func (PySem.W.fnOf x q (defArgs st) (defBody st) (defScope st) .none kV dc pm an cd ct), sl⟩) (c : PySem.W.codeIn K cd q = true) (k : PySem.W.keepIn K (.ref f) = true) : MProp K C x q st ps := by
  have F := fun_mk (st := st) l c k
  exact ⟨p, f, _, ⟨a, g, t, rest, r⟩, F, F.binds b⟩
theorem most_mk {v : Value} (X : K.In h) (G : h.Ns mainGlobals mg) (a : PySem.W.nsIn K mainGlobals x = some (some v)) (e : ∃ t, v = .int 600 t) : ∃ t, mg x = some (.int 600 t) := by
  obtain ⟨t, e⟩ := e
  exact ⟨t, (PySem.W.mg_of X G a).trans (congrArg some e)⟩
theorem kit_self (v : Value) : PySem.W.kitOne K v v = some true := by
  unfold PySem.W.kitOne
  rw [if_pos (beq_iff_eq.mpr rfl)]
theorem own_error {B : Addr} (h1 : PySem.W.subIn K (.ref B) (.type "BaseException") = some true) (h2 : PySem.W.isClsIn K B = true) (h3 : PySem.W.typeIn K (.ref B) = some (.type "type")) (h4 : PySem.W.subIn K (.ref B) (.ref B) = some true) : PySem.W.exmOne K (.ref B) (.ref B) = some true := by
  unfold PySem.W.exmOne PySem.W.kitCls
  have h2 : (PySem.W.clsIn K B).isSome = true := h2
  simp only [h1, h2, h3, h4, beq_self_eq_true, Bool.and_self, if_true]
theorem too_mk {B L N f1 : Addr} {nm nq : Str} {bs : List Value} {sn : List Str} {sub : List Value} {ab : Bool} {col : Option Bool} {dd : Option Addr} {m0 m1 m2 m3 m5 : Option Value} (X : K.In h) (G : h.Ns mainGlobals mg)
    (aB : PySem.W.nsIn K mainGlobals "TooMany" = some (some (.ref B)))
    (xB : K.lookup B = some (excClassObj nm nq B N bs (.ref L :: PySem.TooX.aeTail) true sn sub ab col dd m0 m1 m2 m3 m5 "ArithmeticError.__new__"))
    (sa : PySem.W.findIn K (.ref B) "__setattr__" = some (some (.builtin "object.__setattr__"))) (ga : PySem.W.findIn K (.ref B) "__getattribute__" = some (some (.builtin "BaseException.__getattribute__"))) (gg : PySem.W.findIn K (.ref B) "__getattr__" = some none)
    (nW : PySem.W.findIn K (.ref B) "what" = some none) (nL : PySem.W.findIn K (.ref B) "limit" = some none) (a1 : PySem.W.findIn K (.ref B) "__init__" = some (some (.ref f1))) (t1 : PySem.W.typeIn K (.ref f1) = some (.type "function"))
    (l : K.lookup f1 = some ⟨oc, od, .func (PySem.W.fnOf "__init__" "TooMany.__init__" (defArgs sTooI) (defBody sTooI) (defScope sTooI) .none kV dc pm an cd ct), sl⟩) (c : PySem.W.codeIn K cd "TooMany.__init__" = true)
    (kC : PySem.W.keepIn K (.ref B) = true) (eC : PySem.W.subIn K (.ref B) (.type "BaseException") = some true) (tC : PySem.W.typeIn K (.ref B) = some (.type "type")) (hC : PySem.W.hasDictIn K B = true) (iC : PySem.W.isClsIn K B = true) (sC : PySem.W.subIn K (.ref B) (.ref B) = some true) :
    PySem.TooX.TooTxt K mg B L f1 where
  gC := PySem.W.mg_of X G aB
  cls := ⟨_, _, _, _, _, _, _, _, _, _, _, _, _, _, xB⟩
  sa := sa
  ga := ga
  gg := gg
  nW := nW
  nL := nL
  iC := a1
  tC := t1
  kC := kC
  exC := eC
  tyC := tC
  hdC := hC
  te := own_error eC iC tC sC
  fn := ⟨_, _, _, _, _, _, _, _, _, l, c⟩
end
theorem b_isInteger : BindAll "is_integer" "is_integer" s_isInteger ["value"] := fun _ _ _ _ _ _ us hl => match us, hl with | [_], _ => rfl
theorem b_isList : BindAll "is_list" "is_list" s_isList ["value"] := fun _ _ _ _ _ _ us hl => match us, hl with | [_], _ => rfl
theorem b_isDay : BindAll "is_day" "is_day" s_isDay ["value"] := fun _ _ _ _ _ _ us hl => match us, hl with | [_], _ => rfl
theorem b_wantMost : BindAll "want_at_most" "want_at_most" s_wantMost ["what", "limit", "number"] := fun _ _ _ _ _ _ us hl => match us, hl with | [_, _, _], _ => rfl
theorem b_floorPart : BindAll "floor_part" "floor_part" s_floorPart ["day", "length"] := fun _ _ _ _ _ _ us hl => match us, hl with | [_, _], _ => rfl
theorem b_isTable : BindAll "is_table" "is_table" s_isTable ["value"] := fun _ _ _ _ _ _ us hl => match us, hl with | [_], _ => rfl
theorem b_commonLength : BindAll "common_length" "common_length" s_commonLength ["table", "other_table"] := fun _ _ _ _ _ _ us hl => match us, hl with | [_, _], _ => rfl
theorem b_behind : BindAll "behind" "behind" s_behind ["table", "other_table"] := fun _ _ _ _ _ _ us hl => match us, hl with | [_, _], _ => rfl
theorem w_behind : BindSwap "behind" s_behind := fun _ _ _ _ _ _ _ _ => rfl
theorem b_later : BindAll "later" "later" s_later ["table", "other_table"] := fun _ _ _ _ _ _ us hl => match us, hl with | [_, _], _ => rfl
theorem w_later : BindSwap "later" s_later := fun _ _ _ _ _ _ _ _ => rfl
theorem b_sooner : BindAll "sooner" "sooner" s_sooner ["table", "other_table"] := fun _ _ _ _ _ _ us hl => match us, hl with | [_, _], _ => rfl
theorem w_sooner : BindSwap "sooner" s_sooner := fun _ _ _ _ _ _ _ _ => rfl
theorem b_gapsOf : BindAll "gaps_of" "gaps_of" s_gapsOf ["table", "other_table"] := fun _ _ _ _ _ _ us hl => match us, hl with | [_, _], _ => rfl
theorem b_firstAbove : BindAll "first_above" "first_above" s_firstAbove ["table", "other_table"] := fun _ _ _ _ _ _ us hl => match us, hl with | [_, _], _ => rfl
theorem w_firstAbove : BindSwap "first_above" s_firstAbove := fun _ _ _ _ _ _ _ _ => rfl
theorem b_mostAbove : BindAll "most_above" "most_above" s_mostAbove ["table", "other_table"] := fun _ _ _ _ _ _ us hl => match us, hl with | [_, _], _ => rfl
theorem w_mostAbove : BindSwap "most_above" s_mostAbove := fun _ _ _ _ _ _ _ _ => rfl
theorem b_firstParting : BindAll "first_parting" "first_parting" s_firstParting ["table", "other_table"] := fun _ _ _ _ _ _ us hl => match us, hl with | [_, _], _ => rfl
theorem w_firstParting : BindSwap "first_parting" s_firstParting := fun _ _ _ _ _ _ _ _ => rfl
theorem b_pot : BindAll "_law_pot" "_law_pot" s_pot ["_law_script", "_law_k"] := fun _ _ _ _ _ _ us hl => match us, hl with | [_, _], _ => rfl
theorem b_draw : BindAll "_law_draw" "_law_draw" s_draw ["_law_pot_here", "_law_size"] := fun _ _ _ _ _ _ us hl => match us, hl with | [_, _], _ => rfl
theorem b_pick : BindAll "_law_pick" "_law_pick" s_pick ["_law_pot_here", "_law_some"] := fun _ _ _ _ _ _ us hl => match us, hl with | [_, _], _ => rfl
theorem b_days : BindAll "_law_days" "_law_days" s_days ["_law_pot_here", "_law_length", "_law_first"] := fun _ _ _ _ _ _ us hl => match us, hl with | [_, _, _], _ => rfl
theorem b_on : BindAll "_law_on" "_law_on" s_on ["_law_days_here", "_law_day"] := fun _ _ _ _ _ _ us hl => match us, hl with | [_, _], _ => rfl
theorem b_common : BindAll "_law_common" "_law_common" s_common ["_law_one", "_law_other"] := fun _ _ _ _ _ _ us hl => match us, hl with | [_, _], _ => rfl
theorem b_told : BindAll "_law_told" "_law_told" s_told ["_law_table"] := fun _ _ _ _ _ _ us hl => match us, hl with | [_], _ => rfl
theorem b_joinedRight : BindAll "_law_joined_right" "_law_joined_right" s_joinedRight ["_law_table", "_law_days_here", "_law_other_table", "_law_others"] := fun _ _ _ _ _ _ us hl => match us, hl with | [_, _, _, _], _ => rfl
theorem b_heldRight : BindAll "_law_held_right" "_law_held_right" s_heldRight ["_law_table", "_law_days_here", "_law_other_table", "_law_others"] := fun _ _ _ _ _ _ us hl => match us, hl with | [_, _, _, _], _ => rfl
theorem b_backRight : BindAll "_law_back_right" "_law_back_right" s_backRight ["_law_table", "_law_other_table"] := fun _ _ _ _ _ _ us hl => match us, hl with | [_, _], _ => rfl
theorem b_refusal : BindAll "_law_refusal" "_law_refusal" s_refusal ["_law_deed", "_law_table", "_law_other_table"] := fun _ _ _ _ _ _ us hl => match us, hl with | [_, _, _], _ => rfl
theorem b_longRight : BindAll "_law_long_right" "_law_long_right" s_longRight ["_law_pot_here"] := fun _ _ _ _ _ _ us hl => match us, hl with | [_], _ => rfl
theorem b_right : BindAll "_law_right" "_law_right" s_right ["_law_pot_here"] := fun _ _ _ _ _ _ us hl => match us, hl with | [_], _ => rfl
theorem b_law : BindAll "law" "law" s_law ["_law_script"] := fun _ _ _ _ _ _ us hl => match us, hl with | [_], _ => rfl
theorem b_TInit : BindAll "__init__" "Table.__init__" s_TInit ["self", "days"] := fun _ _ _ _ _ _ us hl => match us, hl with | [_, _], _ => rfl
theorem b_TLength : BindAll "length" "Table.length" s_TLength ["self"] := fun _ _ _ _ _ _ us hl => match us, hl with | [_], _ => rfl
theorem b_TDays : BindAll "days" "Table.days" s_TDays ["self"] := fun _ _ _ _ _ _ us hl => match us, hl with | [_], _ => rfl
theorem b_TServed : BindAll "served" "Table.served" s_TServed ["self", "day"] := fun _ _ _ _ _ _ us hl => match us, hl with | [_, _], _ => rfl
theorem b_TFirstBy : BindAll "first_by" "Table.first_by" s_TFirstBy ["self", "day"] := fun _ _ _ _ _ _ us hl => match us, hl with | [_, _], _ => rfl
theorem b_TByTable : BindAll "by_table" "Table.by_table" s_TByTable ["self"] := fun _ _ _ _ _ _ us hl => match us, hl with | [_], _ => rfl
theorem b_TTilTable : BindAll "til_table" "Table.til_table" s_TTilTable ["self"] := fun _ _ _ _ _ _ us hl => match us, hl with | [_], _ => rfl
theorem b_TRepeats : BindAll "repeats" "Table.repeats" s_TRepeats ["self", "length"] := fun _ _ _ _ _ _ us hl => match us, hl with | [_, _], _ => rfl
theorem b_TShortest : BindAll "shortest" "Table.shortest" s_TShortest ["self"] := fun _ _ _ _ _ _ us hl => match us, hl with | [_], _ => rfl
theorem b_TIsSame : BindAll "is_same" "Table.is_same" s_TIsSame ["self", "other_table"] := fun _ _ _ _ _ _ us hl => match us, hl with | [_, _], _ => rfl
theorem top_mk {l : PySem.W.OpenLaw} {w : World} {K : PySem.W.Frag} {h : Heap} {mg : Str → Option Value} {fa f C B L fB : Addr} {od an : Option Addr} {sl : Array (Option Value)} {oc kV dc pm cd ct : Value} (X : K.In h) (G : h.Ns mainGlobals mg) (hfa : mg "law" = some (.ref fa)) (T : Txt K mg C B L fB)
    (a : PySem.W.nsIn K mainGlobals "law" = some (some (.ref f))) (lk : K.lookup f = some ⟨oc, od, .func (PySem.W.fnOf "law" "law" (defArgs s_law) (defBody s_law) (defScope s_law) .none kV dc pm an cd ct), sl⟩) (c : PySem.W.codeIn K cd "law" = true) (k : PySem.W.keepIn K (.ref f) = true) :
    ∃ fd : FuncData, (∀ (s : Shared) (u : Value), BindsTo s fd ⟨[u], []⟩ [("_law_script", u)]) ∧ ∀ base : Heap, K.In base → base.Ns mainGlobals mg → FnG l.prog w K mg base CX0 11 fa fd ["_law_script"] (spLaw K) := by
  have e := hfa.symm.trans (PySem.W.mg_of X G a)
  cases e
  exact ⟨_, fun s u => .of_eq (b_law kV dc pm an cd ct [u] rfl), fun base _ _ => ok_law T (fun_mk (st := s_law) lk c k)⟩
end K13
set_option Elab.async false
set_option linter.all false
set_option maxRecDepth 100000
open PySem PySem.W PyProof.Rows
set_option maxRecDepth 100000 in
set_option maxHeartbeats 0 in
theorem PySem.Challenge.cw_leadrules_k13_whole_tables_made_of_two_holds : PySem.Challenge.rw_leadrules_k13_whole_tables_made_of_two.Holds := by
  w_on; o_law; k_head; (case hw => w_witness2)
  k_fill
  refine K13.walk_end (l := PySem.Challenge.rw_leadrules_k13_whole_tables_made_of_two) rfl rfl (fun w h Y => PySem.W.kIn_of Y) ?F
  case F =>
    intro w mg fa h KX G hmg
    refine' K13.top_mk KX G hmg ?T ?la ?ll ?lc ?lk
    case T =>
      refine' { gT := ?gT, cl := ?cl, nDays := ?nDays, nLen := ?nLen, gM := ?gM, gLcm := ?gLcm, too := ?too, cA := ?cA, cN := ?cN, cT := ?cT, cM := ?cM, kOne := ?kOne, g_isinstance := ?g_isinstance, g_int := ?g_int, g_bool := ?g_bool, g_list := ?g_list, g_tuple := ?g_tuple, g_len := ?g_len, g_all := ?g_all, g_range := ?g_range, g_max := ?g_max, g_min := ?g_min, g_enumerate := ?g_enumerate, g_divmod := ?g_divmod, g_abs := ?g_abs, g_repr := ?g_repr, d_isInteger := ?d_isInteger, d_isList := ?d_isList, d_isDay := ?d_isDay, d_wantMost := ?d_wantMost, d_floorPart := ?d_floorPart, d_isTable := ?d_isTable, d_commonLength := ?d_commonLength, d_behind := ?d_behind, d_later := ?d_later, d_sooner := ?d_sooner, d_gapsOf := ?d_gapsOf, d_firstAbove := ?d_firstAbove, d_mostAbove := ?d_mostAbove, d_firstParting := ?d_firstParting, d_pot := ?d_pot, d_draw := ?d_draw, d_pick := ?d_pick, d_days := ?d_days, d_on := ?d_on, d_common := ?d_common, d_told := ?d_told, d_joinedRight := ?d_joinedRight, d_heldRight := ?d_heldRight, d_backRight := ?d_backRight, d_refusal := ?d_refusal, d_longRight := ?d_longRight, d_right := ?d_right, m_Init := ?m_Init, m_Length := ?m_Length, m_Days := ?m_Days, m_Served := ?m_Served, m_FirstBy := ?m_FirstBy, m_ByTable := ?m_ByTable, m_TilTable := ?m_TilTable, m_Repeats := ?m_Repeats, m_Shortest := ?m_Shortest, m_IsSame := ?m_IsSame }
      (case gT => (refine' PySem.W.mg_of KX G ?u_gT_a; (case u_gT_a => k_is)))
      (case cl => (refine' ⟨?u_cl_a, ?u_cl_b, ?u_cl_c, ?u_cl_d⟩; (case u_cl_a => k_is); (case u_cl_b => k_is); (case u_cl_c => k_is); (case u_cl_d => k_is)))
      (case nDays => (refine' (show _ = _ from ?u_nDays_a); (case u_nDays_a => k_is)))
      (case nLen => (refine' (show _ = _ from ?u_nLen_a); (case u_nLen_a => k_is)))
      (case gM => (refine' K13.most_mk KX G ?u_gM_a ?u_gM_e; (case u_gM_a => k_is); (case u_gM_e => exact ⟨_, rfl⟩)))
      (case gLcm => (refine' PySem.W.mg_of KX G ?u_gLcm_a; (case u_gLcm_a => k_is)))
      (case too => (refine' K13.too_mk KX G ?u_too_aB ?u_too_xB ?u_too_sa ?u_too_ga ?u_too_gg ?u_too_nW ?u_too_nL ?u_too_a1 ?u_too_t1 ?u_too_l ?u_too_c ?u_too_kC ?u_too_eC ?u_too_tC ?u_too_hC ?u_too_iC ?u_too_sC; (case u_too_aB => k_is); (case u_too_xB => k_is); (case u_too_sa => k_is); (case u_too_ga => k_is); (case u_too_gg => k_is); (case u_too_nW => k_is); (case u_too_nL => k_is); (case u_too_a1 => k_is); (case u_too_t1 => k_is); (case u_too_l => k_is); (case u_too_c => k_is); (case u_too_kC => k_is); (case u_too_eC => k_is); (case u_too_tC => k_is); (case u_too_hC => k_is); (case u_too_iC => k_is); (case u_too_sC => first | rfl | k_is)))
      (case cA => k_is)
      (case cN => k_is)
      (case cT => k_is)
      (case cM => k_is)
      (case kOne => exact K13.kit_self _)
      (case g_isinstance => (refine' PySem.W.mg_none_of KX G ?u_g_isinstance_a; (case u_g_isinstance_a => k_is)))
      (case g_int => (refine' PySem.W.mg_none_of KX G ?u_g_int_a; (case u_g_int_a => k_is)))
      (case g_bool => (refine' PySem.W.mg_none_of KX G ?u_g_bool_a; (case u_g_bool_a => k_is)))
      (case g_list => (refine' PySem.W.mg_none_of KX G ?u_g_list_a; (case u_g_list_a => k_is)))
      (case g_tuple => (refine' PySem.W.mg_none_of KX G ?u_g_tuple_a; (case u_g_tuple_a => k_is)))
      (case g_len => (refine' PySem.W.mg_none_of KX G ?u_g_len_a; (case u_g_len_a => k_is)))
      (case g_all => (refine' PySem.W.mg_none_of KX G ?u_g_all_a; (case u_g_all_a => k_is)))
      (case g_range => (refine' PySem.W.mg_none_of KX G ?u_g_range_a; (case u_g_range_a => k_is)))
      (case g_max => (refine' PySem.W.mg_none_of KX G ?u_g_max_a; (case u_g_max_a => k_is)))
      (case g_min => (refine' PySem.W.mg_none_of KX G ?u_g_min_a; (case u_g_min_a => k_is)))
      (case g_enumerate => (refine' PySem.W.mg_none_of KX G ?u_g_enumerate_a; (case u_g_enumerate_a => k_is)))
      (case g_divmod => (refine' PySem.W.mg_none_of KX G ?u_g_divmod_a; (case u_g_divmod_a => k_is)))
      (case g_abs => (refine' PySem.W.mg_none_of KX G ?u_g_abs_a; (case u_g_abs_a => k_is)))
      (case g_repr => (refine' PySem.W.mg_none_of KX G ?u_g_repr_a; (case u_g_repr_a => k_is)))
      (case d_isInteger => (refine' K13.there_mk KX G K13.b_isInteger ?u_d_isInteger_a ?u_d_isInteger_l ?u_d_isInteger_c ?u_d_isInteger_k; (case u_d_isInteger_a => k_is); (case u_d_isInteger_l => k_is); (case u_d_isInteger_c => k_is); (case u_d_isInteger_k => k_is)))
      (case d_isList => (refine' K13.there_mk KX G K13.b_isList ?u_d_isList_a ?u_d_isList_l ?u_d_isList_c ?u_d_isList_k; (case u_d_isList_a => k_is); (case u_d_isList_l => k_is); (case u_d_isList_c => k_is); (case u_d_isList_k => k_is)))
      (case d_isDay => (refine' K13.there_mk KX G K13.b_isDay ?u_d_isDay_a ?u_d_isDay_l ?u_d_isDay_c ?u_d_isDay_k; (case u_d_isDay_a => k_is); (case u_d_isDay_l => k_is); (case u_d_isDay_c => k_is); (case u_d_isDay_k => k_is)))
      (case d_wantMost => (refine' K13.there_mk KX G K13.b_wantMost ?u_d_wantMost_a ?u_d_wantMost_l ?u_d_wantMost_c ?u_d_wantMost_k; (case u_d_wantMost_a => k_is); (case u_d_wantMost_l => k_is); (case u_d_wantMost_c => k_is); (case u_d_wantMost_k => k_is)))
      (case d_floorPart => (refine' K13.there_mk KX G K13.b_floorPart ?u_d_floorPart_a ?u_d_floorPart_l ?u_d_floorPart_c ?u_d_floorPart_k; (case u_d_floorPart_a => k_is); (case u_d_floorPart_l => k_is); (case u_d_floorPart_c => k_is); (case u_d_floorPart_k => k_is)))
      (case d_isTable => (refine' K13.there_mk KX G K13.b_isTable ?u_d_isTable_a ?u_d_isTable_l ?u_d_isTable_c ?u_d_isTable_k; (case u_d_isTable_a => k_is); (case u_d_isTable_l => k_is); (case u_d_isTable_c => k_is); (case u_d_isTable_k => k_is)))
      (case d_commonLength => (refine' K13.there_mk KX G K13.b_commonLength ?u_d_commonLength_a ?u_d_commonLength_l ?u_d_commonLength_c ?u_d_commonLength_k; (case u_d_commonLength_a => k_is); (case u_d_commonLength_l => k_is); (case u_d_commonLength_c => k_is); (case u_d_commonLength_k => k_is)))
      (case d_behind => (refine' K13.there2_mk KX G K13.b_behind K13.w_behind ?u_d_behind_a ?u_d_behind_l ?u_d_behind_c ?u_d_behind_k; (case u_d_behind_a => k_is); (case u_d_behind_l => k_is); (case u_d_behind_c => k_is); (case u_d_behind_k => k_is)))
      (case d_later => (refine' K13.there2_mk KX G K13.b_later K13.w_later ?u_d_later_a ?u_d_later_l ?u_d_later_c ?u_d_later_k; (case u_d_later_a => k_is); (case u_d_later_l => k_is); (case u_d_later_c => k_is); (case u_d_later_k => k_is)))
      (case d_sooner => (refine' K13.there2_mk KX G K13.b_sooner K13.w_sooner ?u_d_sooner_a ?u_d_sooner_l ?u_d_sooner_c ?u_d_sooner_k; (case u_d_sooner_a => k_is); (case u_d_sooner_l => k_is); (case u_d_sooner_c => k_is); (case u_d_sooner_k => k_is)))
      (case d_gapsOf => (refine' K13.there_mk KX G K13.b_gapsOf ?u_d_gapsOf_a ?u_d_gapsOf_l ?u_d_gapsOf_c ?u_d_gapsOf_k; (case u_d_gapsOf_a => k_is); (case u_d_gapsOf_l => k_is); (case u_d_gapsOf_c => k_is); (case u_d_gapsOf_k => k_is)))
      (case d_firstAbove => (refine' K13.there2_mk KX G K13.b_firstAbove K13.w_firstAbove ?u_d_firstAbove_a ?u_d_firstAbove_l ?u_d_firstAbove_c ?u_d_firstAbove_k; (case u_d_firstAbove_a => k_is); (case u_d_firstAbove_l => k_is); (case u_d_firstAbove_c => k_is); (case u_d_firstAbove_k => k_is)))
      (case d_mostAbove => (refine' K13.there2_mk KX G K13.b_mostAbove K13.w_mostAbove ?u_d_mostAbove_a ?u_d_mostAbove_l ?u_d_mostAbove_c ?u_d_mostAbove_k; (case u_d_mostAbove_a => k_is); (case u_d_mostAbove_l => k_is); (case u_d_mostAbove_c => k_is); (case u_d_mostAbove_k => k_is)))
      (case d_firstParting => (refine' K13.there2_mk KX G K13.b_firstParting K13.w_firstParting ?u_d_firstParting_a ?u_d_firstParting_l ?u_d_firstParting_c ?u_d_firstParting_k; (case u_d_firstParting_a => k_is); (case u_d_firstParting_l => k_is); (case u_d_firstParting_c => k_is); (case u_d_firstParting_k => k_is)))
      (case d_pot => (refine' K13.there_mk KX G K13.b_pot ?u_d_pot_a ?u_d_pot_l ?u_d_pot_c ?u_d_pot_k; (case u_d_pot_a => k_is); (case u_d_pot_l => k_is); (case u_d_pot_c => k_is); (case u_d_pot_k => k_is)))
      (case d_draw => (refine' K13.there_mk KX G K13.b_draw ?u_d_draw_a ?u_d_draw_l ?u_d_draw_c ?u_d_draw_k; (case u_d_draw_a => k_is); (case u_d_draw_l => k_is); (case u_d_draw_c => k_is); (case u_d_draw_k => k_is)))
      (case d_pick => (refine' K13.there_mk KX G K13.b_pick ?u_d_pick_a ?u_d_pick_l ?u_d_pick_c ?u_d_pick_k; (case u_d_pick_a => k_is); (case u_d_pick_l => k_is); (case u_d_pick_c => k_is); (case u_d_pick_k => k_is)))
      (case d_days => (refine' K13.there_mk KX G K13.b_days ?u_d_days_a ?u_d_days_l ?u_d_days_c ?u_d_days_k; (case u_d_days_a => k_is); (case u_d_days_l => k_is); (case u_d_days_c => k_is); (case u_d_days_k => k_is)))
      (case d_on => (refine' K13.there_mk KX G K13.b_on ?u_d_on_a ?u_d_on_l ?u_d_on_c ?u_d_on_k; (case u_d_on_a => k_is); (case u_d_on_l => k_is); (case u_d_on_c => k_is); (case u_d_on_k => k_is)))
      (case d_common => (refine' K13.there_mk KX G K13.b_common ?u_d_common_a ?u_d_common_l ?u_d_common_c ?u_d_common_k; (case u_d_common_a => k_is); (case u_d_common_l => k_is); (case u_d_common_c => k_is); (case u_d_common_k => k_is)))
      (case d_told => (refine' K13.there_mk KX G K13.b_told ?u_d_told_a ?u_d_told_l ?u_d_told_c ?u_d_told_k; (case u_d_told_a => k_is); (case u_d_told_l => k_is); (case u_d_told_c => k_is); (case u_d_told_k => k_is)))
      (case d_joinedRight => (refine' K13.there_mk KX G K13.b_joinedRight ?u_d_joinedRight_a ?u_d_joinedRight_l ?u_d_joinedRight_c ?u_d_joinedRight_k; (case u_d_joinedRight_a => k_is); (case u_d_joinedRight_l => k_is); (case u_d_joinedRight_c => k_is); (case u_d_joinedRight_k => k_is)))
      (case d_heldRight => (refine' K13.there_mk KX G K13.b_heldRight ?u_d_heldRight_a ?u_d_heldRight_l ?u_d_heldRight_c ?u_d_heldRight_k; (case u_d_heldRight_a => k_is); (case u_d_heldRight_l => k_is); (case u_d_heldRight_c => k_is); (case u_d_heldRight_k => k_is)))
      (case d_backRight => (refine' K13.there_mk KX G K13.b_backRight ?u_d_backRight_a ?u_d_backRight_l ?u_d_backRight_c ?u_d_backRight_k; (case u_d_backRight_a => k_is); (case u_d_backRight_l => k_is); (case u_d_backRight_c => k_is); (case u_d_backRight_k => k_is)))
      (case d_refusal => (refine' K13.there_mk KX G K13.b_refusal ?u_d_refusal_a ?u_d_refusal_l ?u_d_refusal_c ?u_d_refusal_k; (case u_d_refusal_a => k_is); (case u_d_refusal_l => k_is); (case u_d_refusal_c => k_is); (case u_d_refusal_k => k_is)))
      (case d_longRight => (refine' K13.there_mk KX G K13.b_longRight ?u_d_longRight_a ?u_d_longRight_l ?u_d_longRight_c ?u_d_longRight_k; (case u_d_longRight_a => k_is); (case u_d_longRight_l => k_is); (case u_d_longRight_c => k_is); (case u_d_longRight_k => k_is)))
      (case d_right => (refine' K13.there_mk KX G K13.b_right ?u_d_right_a ?u_d_right_l ?u_d_right_c ?u_d_right_k; (case u_d_right_a => k_is); (case u_d_right_l => k_is); (case u_d_right_c => k_is); (case u_d_right_k => k_is)))
      (case m_Init => (refine' K13.minit_mk K13.b_TInit ?u_m_Init_m ?u_m_Init_a ?u_m_Init_i ?u_m_Init_kc ?u_m_Init_l ?u_m_Init_c ?u_m_Init_k; (case u_m_Init_m => k_is); (case u_m_Init_a => k_is); (case u_m_Init_i => k_is); (case u_m_Init_kc => k_is); (case u_m_Init_l => k_is); (case u_m_Init_c => k_is); (case u_m_Init_k => k_is)))
      (case m_Length => (refine' K13.mprop_mk K13.b_TLength ?u_m_Length_a ?u_m_Length_g ?u_m_Length_t ?u_m_Length_r ?u_m_Length_l ?u_m_Length_c ?u_m_Length_k; (case u_m_Length_a => k_is); (case u_m_Length_g => k_is); (case u_m_Length_t => k_is); (case u_m_Length_r => k_is); (case u_m_Length_l => k_is); (case u_m_Length_c => k_is); (case u_m_Length_k => k_is)))
      (case m_Days => (refine' K13.mthere_mk K13.b_TDays ?u_m_Days_a ?u_m_Days_i ?u_m_Days_l ?u_m_Days_c ?u_m_Days_k; (case u_m_Days_a => k_is); (case u_m_Days_i => k_is); (case u_m_Days_l => k_is); (case u_m_Days_c => k_is); (case u_m_Days_k => k_is)))
      (case m_Served => (refine' K13.mthere_mk K13.b_TServed ?u_m_Served_a ?u_m_Served_i ?u_m_Served_l ?u_m_Served_c ?u_m_Served_k; (case u_m_Served_a => k_is); (case u_m_Served_i => k_is); (case u_m_Served_l => k_is); (case u_m_Served_c => k_is); (case u_m_Served_k => k_is)))
      (case m_FirstBy => (refine' K13.mthere_mk K13.b_TFirstBy ?u_m_FirstBy_a ?u_m_FirstBy_i ?u_m_FirstBy_l ?u_m_FirstBy_c ?u_m_FirstBy_k; (case u_m_FirstBy_a => k_is); (case u_m_FirstBy_i => k_is); (case u_m_FirstBy_l => k_is); (case u_m_FirstBy_c => k_is); (case u_m_FirstBy_k => k_is)))
      (case m_ByTable => (refine' K13.mthere_mk K13.b_TByTable ?u_m_ByTable_a ?u_m_ByTable_i ?u_m_ByTable_l ?u_m_ByTable_c ?u_m_ByTable_k; (case u_m_ByTable_a => k_is); (case u_m_ByTable_i => k_is); (case u_m_ByTable_l => k_is); (case u_m_ByTable_c => k_is); (case u_m_ByTable_k => k_is)))
      (case m_TilTable => (refine' K13.mthere_mk K13.b_TTilTable ?u_m_TilTable_a ?u_m_TilTable_i ?u_m_TilTable_l ?u_m_TilTable_c ?u_m_TilTable_k; (case u_m_TilTable_a => k_is); (case u_m_TilTable_i => k_is); (case u_m_TilTable_l => k_is); (case u_m_TilTable_c => k_is); (case u_m_TilTable_k => k_is)))
      (case m_Repeats => (refine' K13.mthere_mk K13.b_TRepeats ?u_m_Repeats_a ?u_m_Repeats_i ?u_m_Repeats_l ?u_m_Repeats_c ?u_m_Repeats_k; (case u_m_Repeats_a => k_is); (case u_m_Repeats_i => k_is); (case u_m_Repeats_l => k_is); (case u_m_Repeats_c => k_is); (case u_m_Repeats_k => k_is)))
      (case m_Shortest => (refine' K13.mthere_mk K13.b_TShortest ?u_m_Shortest_a ?u_m_Shortest_i ?u_m_Shortest_l ?u_m_Shortest_c ?u_m_Shortest_k; (case u_m_Shortest_a => k_is); (case u_m_Shortest_i => k_is); (case u_m_Shortest_l => k_is); (case u_m_Shortest_c => k_is); (case u_m_Shortest_k => k_is)))
      (case m_IsSame => (refine' K13.mthere_mk K13.b_TIsSame ?u_m_IsSame_a ?u_m_IsSame_i ?u_m_IsSame_l ?u_m_IsSame_c ?u_m_IsSame_k; (case u_m_IsSame_a => k_is); (case u_m_IsSame_i => k_is); (case u_m_IsSame_l => k_is); (case u_m_IsSame_c => k_is); (case u_m_IsSame_k => k_is)))
    (case la => k_is); (case ll => k_is); (case lc => k_is); (case lk => k_is)
