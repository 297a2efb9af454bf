import PyProof.Rows.All
import Wide.All
import OpenK.AllK
import Wide.FinOn
import HandS.ForMost
import HandS.Walk
import HandS.IsInst
import HandS.RevRange
import HandS.Deep
import HandS.SetFor
import HandS.Evl
import HandS.Exc
import HandS.ExcOwn
import HandS.ExcCtx
import HandS.ExcIs
import HandS.WordsExc
import HandS.HotCalls
import PySem.Challenge.RW_lampwatch_k14_refused
set_option linter.all false
set_option maxHeartbeats 4000000
/-! Lampwatch: what the defs compute, in plain Lean. Lights are lists of codes (111 'o', 46 '.'). -/
namespace Lw
def isSign (c : Nat) : Bool := c == 111 || c == 46
def Good (l : List Nat) : Prop := 1 ≤ l.length ∧ l.length ≤ 12 ∧ ∀ c ∈ l, isSign c = true
def lightB (l : List Nat) : Bool := (decide (1 ≤ l.length) && decide (l.length ≤ 12)) && l.all isSign
theorem lightB_iff {l : List Nat} : lightB l = true ↔ Good l := by
  unfold lightB Good
  simp only [Bool.and_eq_true, decide_eq_true_eq, List.all_eq_true]
  exact and_assoc
/-- the sign at a moment -/
def sg (l : List Nat) (m : Int) : Nat := l.getD (m % (l.length : Int)).toNat 0
def sight (l : List Nat) (m : Int) (n : Nat) : List Nat := (List.range n).map fun (k : Nat) => sg l (m + (k : Int))
theorem sight_len (l : List Nat) (m : Int) (n : Nat) : (sight l m n).length = n := by simp [sight]
theorem sight_succ (l : List Nat) (m : Int) (n : Nat) : sight l m (n + 1) = sight l m n ++ [sg l (m + n)] := by simp [sight, List.range_succ]
theorem sg_add_len (l : List Nat) (m : Int) : sg l (m + l.length) = sg l m := by
  unfold sg
  rw [Int.add_emod_right]
theorem sg_mem {l : List Nat} (h : 1 ≤ l.length) (m : Int) : sg l m ∈ l := by
  unfold sg
  have h1 : 0 ≤ m % (l.length : Int) := Int.emod_nonneg _ (by omega)
  have h2 : m % (l.length : Int) < l.length := Int.emod_lt_of_pos _ (by omega)
  have h3 : (m % (l.length : Int)).toNat < l.length := by omega
  rw [List.getD_eq_getElem?_getD, List.getElem?_eq_getElem h3]
  exact List.getElem_mem h3
theorem sight_add_len (l : List Nat) (m : Int) (n : Nat) : sight l (m + l.length) n = sight l m n := by
  unfold sight
  refine List.map_congr_left fun k _ => ?_
  rw [show m + (l.length : Int) + (k : Int) = m + k + l.length by omega, sg_add_len]
def rep (n : Nat) (l : List Nat) : List Nat := (List.replicate n l).flatten
theorem rep_len (n : Nat) (l : List Nat) : (rep n l).length = n * l.length := by
  induction n with
  | zero => simp [rep]
  | succ n ih =>
    have e : rep (n + 1) l = l ++ rep n l := by simp [rep, List.replicate_succ]
    rw [e, List.length_append, ih, Nat.succ_mul, Nat.add_comm]
theorem rep_mem {n : Nat} {l : List Nat} {c : Nat} (h : c ∈ rep n l) : c ∈ l := by
  unfold rep at h
  obtain ⟨l', h1, h2⟩ := List.mem_flatten.mp h
  obtain ⟨_, e⟩ := List.mem_replicate.mp h1
  rw [e] at h2
  exact h2
theorem sight_get (l : List Nat) (m : Int) {n k : Nat} (h : k < n) : (sight l m n)[k]? = some (sg l (m + (k : Int))) := by
  unfold sight
  rw [List.getElem?_map, List.getElem?_range h]
  rfl
theorem sight_ext {l l' : List Nat} {m m' : Int} {n : Nat} : sight l m n = sight l' m' n ↔ ∀ k : Nat, k < n → sg l (m + (k : Int)) = sg l' (m' + (k : Int)) := by
  constructor
  · intro h k hk
    have h1 := sight_get l m hk
    rw [h, sight_get l' m' hk] at h1
    exact (Option.some.inj h1).symm
  · intro h
    unfold sight
    exact List.map_congr_left fun k hk => h k (List.mem_range.mp hk)
theorem sg_nat {l : List Nat} {k : Nat} (h : k < l.length) : sg l (k : Int) = l[k] := by
  unfold sg
  rw [Int.emod_eq_of_lt (by omega) (by omega), Int.toNat_natCast, List.getD_eq_getElem?_getD, List.getElem?_eq_getElem h]
  rfl
theorem sight_zero (l : List Nat) {n : Nat} (h : n ≤ l.length) : sight l 0 n = l.take n := by
  refine List.ext_getElem? fun k => ?_
  by_cases hk : k < n
  · rw [sight_get l 0 hk, Int.zero_add, sg_nat (by omega), List.getElem?_take_of_lt hk, List.getElem?_eq_getElem (by omega)]
  · rw [List.getElem?_eq_none (by rw [sight_len]; omega), List.getElem?_eq_none (by rw [List.length_take]; omega)]
theorem sight_self (l : List Nat) : sight l 0 l.length = l := by
  rw [sight_zero l (Nat.le_refl _), List.take_length]
theorem sight_append (l : List Nat) (m : Int) (a b : Nat) : sight l m (a + b) = sight l m a ++ sight l (m + (a : Int)) b := by
  unfold sight
  rw [List.range_add, List.map_append, List.map_map]
  congr 1
  refine List.map_congr_left fun k _ => ?_
  show sg l (m + ((a + k : Nat) : Int)) = sg l (m + (a : Int) + (k : Int))
  rw [show m + ((a + k : Nat) : Int) = m + (a : Int) + (k : Int) by omega]
/-- d is a period of the light's signs over all moments -/
def Per (l : List Nat) (d : Nat) : Prop := ∀ m : Int, sg l (m + (d : Int)) = sg l m
theorem per_len (l : List Nat) : Per l l.length := fun m => sg_add_len l m
/-! functions over the whole numbers with periods -/
def FPer {α : Type} (f : Int → α) (d : Nat) : Prop := ∀ m : Int, f (m + (d : Int)) = f m
theorem FPer.mul {α : Type} {f : Int → α} {d : Nat} (h : FPer f d) (k : Nat) : FPer f (k * d) := by
  induction k with
  | zero => intro m; rw [Nat.zero_mul]; show f (m + 0) = f m; rw [Int.add_zero]
  | succ k ih =>
    intro m
    have e : m + ((k + 1) * d : Nat) = (m + (k * d : Nat)) + (d : Int) := by
      rw [Nat.succ_mul]; omega
    rw [e, h, ih]
theorem FPer.sub {α : Type} {f : Int → α} {d : Nat} (h : FPer f d) (m : Int) : f (m - (d : Int)) = f m := by
  have := h (m - (d : Int))
  rw [← this, Int.sub_add_cancel]
theorem FPer.mulI {α : Type} {f : Int → α} {d : Nat} (h : FPer f d) (m k : Int) : f (m + k * (d : Int)) = f m := by
  by_cases hk : 0 ≤ k
  · have := (h.mul k.toNat) m
    rw [Int.natCast_mul, Int.toNat_of_nonneg hk] at this
    exact this
  · have := (h.mul (-k).toNat).sub m
    rw [Int.natCast_mul, Int.toNat_of_nonneg (by omega)] at this
    rw [← this]
    congr 1
    rw [Int.neg_mul]
    omega
theorem FPer.mod {α : Type} {f : Int → α} {d : Nat} (h : FPer f d) (m : Int) : f (m % (d : Int)) = f m := by
  have e : m % (d : Int) + (m / (d : Int)) * (d : Int) = m := by
    rw [Int.mul_comm]; exact Int.emod_add_mul_ediv _ _
  have := h.mulI (m % (d : Int)) (m / (d : Int))
  rw [e] at this
  exact this.symm
theorem FPer.gcd {α : Type} {f : Int → α} {a b : Nat} (ha : FPer f a) (hb : FPer f b) : FPer f (Nat.gcd a b) := by
  induction a, b using Nat.gcd.induction with
  | H0 b => rw [Nat.gcd_zero_left]; exact hb
  | H1 a b h ih =>
    rw [Nat.gcd_rec]
    refine ih (fun m => ?_) ha
    have e : m + ((b % a : Nat) : Int) = (m + (b : Int)) + (-((b / a : Nat) : Int)) * (a : Int) := by
      have h1 : ((a * (b / a) + b % a : Nat) : Int) = (b : Int) := by rw [Nat.div_add_mod]
      rw [Int.natCast_add, Int.natCast_mul] at h1
      rw [Int.neg_mul, Int.mul_comm]
      omega
    rw [e, ha.mulI, hb]
/-- agreement over a full period -/
theorem FPer.agree {α : Type} {f g : Int → α} {d : Nat} (hd : 1 ≤ d) (hf : FPer f d) (hg : FPer g d) (h : ∀ k : Nat, k < d → f (k : Int) = g (k : Int)) (m : Int) : f m = g m := by
  rw [← hf.mod m, ← hg.mod m]
  have h1 : 0 ≤ m % (d : Int) := Int.emod_nonneg _ (by omega)
  have h2 : m % (d : Int) < d := Int.emod_lt_of_pos _ (by omega)
  have := h (m % (d : Int)).toNat (by omega)
  rw [Int.toNat_of_nonneg h1] at this
  exact this
/-- Fine and Wilf, the window's form -/
theorem fine_wilf {α : Type} (v : Nat → α) : ∀ (n p q : Nat), p + q ≤ n → 1 ≤ p → 1 ≤ q → (∀ i, i + p < p + q - Nat.gcd p q → v (i + p) = v i) → (∀ i, i + q < p + q - Nat.gcd p q → v (i + q) = v i) →
    ∀ i, i < p + q - Nat.gcd p q → v i = v (i % Nat.gcd p q) := by
  intro n
  induction n with
  | zero => intro p q h hp; omega
  | succ n ih =>
    -- the case p < q
    have main : ∀ p q : Nat, p + q ≤ n + 1 → 1 ≤ p → p < q → (∀ i, i + p < p + q - Nat.gcd p q → v (i + p) = v i) → (∀ i, i + q < p + q - Nat.gcd p q → v (i + q) = v i) → ∀ i, i < p + q - Nat.gcd p q → v i = v (i % Nat.gcd p q) := by
      intro p q hs hp hlt h1 h2 i hi
      have gp : Nat.gcd p q ∣ p := Nat.gcd_dvd_left p q
      have gq : Nat.gcd p q ∣ q := Nat.gcd_dvd_right p q
      have ge : Nat.gcd p (q - p) = Nat.gcd p q := by
        have : Nat.gcd p q = Nat.gcd p (q - p + p) := by rw [Nat.sub_add_cancel (Nat.le_of_lt hlt)]
        rw [this, Nat.gcd_add_self_right]
      have gd : Nat.gcd p q ∣ q - p := by rw [← ge]; exact Nat.gcd_dvd_right _ _
      have g0 : 1 ≤ Nat.gcd p q := Nat.gcd_pos_of_pos_left q hp
      have gl : Nat.gcd p q ≤ q - p := Nat.le_of_dvd (by omega) gd
      have gl2 : Nat.gcd p q ≤ p := Nat.le_of_dvd (by omega) gp
      have small : ∀ j, j < p → v j = v (j % Nat.gcd p q) := by
        intro j hj
        have := ih p (q - p) (by omega) hp (by omega) (fun i hi => h1 i (by rw [ge] at hi; omega)) (fun i hi => ?_) j (by rw [ge]; omega)
        · rw [ge] at this; exact this
        · rw [ge] at hi
          have e1 := h1 (i + (q - p)) (by omega)
          have e2 := h2 i (by omega)
          rw [show i + (q - p) + p = i + q by omega] at e1
          rw [← e1, e2]
      have red : ∀ k j, j + k * p < p + q - Nat.gcd p q → v (j + k * p) = v j := by
        intro k
        induction k with
        | zero => intro j _; rw [Nat.zero_mul, Nat.add_zero]
        | succ k ihk =>
          intro j hj
          rw [Nat.succ_mul] at hj ⊢
          rw [← Nat.add_assoc, h1 _ (by omega), ihk j (by omega)]
      have e3 : i % p + i / p * p = i := by rw [Nat.mul_comm]; exact Nat.mod_add_div i p
      have e4 := red (i / p) (i % p) (by rw [e3]; exact hi)
      rw [e3] at e4
      rw [e4, small _ (Nat.mod_lt _ (by omega)), Nat.mod_mod_of_dvd _ gp]
    intro p q hs hp hq h1 h2
    rcases Nat.lt_trichotomy p q with hlt | heq | hgt
    · exact main p q hs hp hlt h1 h2
    · subst heq
      intro i hi
      rw [Nat.gcd_self] at hi ⊢
      rw [Nat.mod_eq_of_lt (by omega)]
    · intro i hi
      rw [Nat.gcd_comm] at hi ⊢
      exact main q p (by omega) hq hgt (fun i hi => h2 i (by rw [Nat.gcd_comm]; omega)) (fun i hi => h1 i (by rw [Nat.gcd_comm]; omega)) i (by omega)
/-- two sequences with periods p and q that agree for p + q - gcd places agree for ever -/
theorem agree_ever {α : Type} {f g : Int → α} {p q : Nat} (hp : 1 ≤ p) (hq : 1 ≤ q) (hf : FPer f p) (hg : FPer g q) (h : ∀ k : Nat, k < p + q - Nat.gcd p q → f (k : Int) = g (k : Int)) (m : Int) : f m = g m := by
  have gp : Nat.gcd p q ∣ p := Nat.gcd_dvd_left p q
  have gq : Nat.gcd p q ∣ q := Nat.gcd_dvd_right p q
  have gl1 : Nat.gcd p q ≤ p := Nat.le_of_dvd (by omega) gp
  have gl2 : Nat.gcd p q ≤ q := Nat.le_of_dvd (by omega) gq
  have g0 : 1 ≤ Nat.gcd p q := Nat.gcd_pos_of_pos_left q hp
  have fw := fine_wilf (fun k : Nat => f (k : Int)) (p + q) p q (Nat.le_refl _) hp hq (fun i hi => ?_) (fun i hi => ?_)
  · have e1 : ∀ m : Int, f m = f (((m % (p : Int)).toNat % Nat.gcd p q : Nat) : Int) := by
      intro m
      have h1 : 0 ≤ m % (p : Int) := Int.emod_nonneg _ (by omega)
      have h2 : m % (p : Int) < p := Int.emod_lt_of_pos _ (by omega)
      have := fw (m % (p : Int)).toNat (by omega)
      rw [← this]
      show f m = f (((m % (p : Int)).toNat : Nat) : Int)
      rw [Int.toNat_of_nonneg h1, hf.mod]
    have e2 : ∀ m : Int, g m = f (((m % (q : Int)).toNat % Nat.gcd p q : Nat) : Int) := by
      intro m
      have h1 : 0 ≤ m % (q : Int) := Int.emod_nonneg _ (by omega)
      have h2 : m % (q : Int) < q := Int.emod_lt_of_pos _ (by omega)
      have := fw (m % (q : Int)).toNat (by omega)
      rw [← this]
      show g m = f (((m % (q : Int)).toNat : Nat) : Int)
      rw [h _ (by omega), Int.toNat_of_nonneg h1, hg.mod]
    rw [e1, e2]
    have e3 : (m % (p : Int)).toNat % Nat.gcd p q = (m % (q : Int)).toNat % Nat.gcd p q := by
      have h1 : 0 ≤ m % (p : Int) := Int.emod_nonneg _ (by omega)
      have h2 : 0 ≤ m % (q : Int) := Int.emod_nonneg _ (by omega)
      have a1 : (((m % (p : Int)).toNat % Nat.gcd p q : Nat) : Int) = m % (Nat.gcd p q : Int) := by
        rw [Int.natCast_emod, Int.toNat_of_nonneg h1]
        exact Int.emod_emod_of_dvd m (Int.natCast_dvd_natCast.mpr gp)
      have a2 : (((m % (q : Int)).toNat % Nat.gcd p q : Nat) : Int) = m % (Nat.gcd p q : Int) := by
        rw [Int.natCast_emod, Int.toNat_of_nonneg h2]
        exact Int.emod_emod_of_dvd m (Int.natCast_dvd_natCast.mpr gq)
      omega
    rw [e3]
  · show f ((i + p : Nat) : Int) = f (i : Int)
    rw [Int.natCast_add]; exact hf _
  · show f ((i + q : Nat) : Int) = f (i : Int)
    rw [h _ hi, h i (by omega), Int.natCast_add]; exact hg _
/-! the first number below n with a property -/
def findN (n : Nat) (p : Nat → Bool) : Option Nat := (List.range n).find? p
theorem findN_succ (n : Nat) (p : Nat → Bool) : findN (n + 1) p = (findN n p).or (if p n = true then some n else none) := by
  unfold findN
  rw [List.range_succ, List.find?_append]
  congr 1
  show (match p n with | true => some n | false => none) = _
  cases p n <;> rfl
theorem findN_spec (p : Nat → Bool) : ∀ n, (∀ i, findN n p = some i → i < n ∧ p i = true ∧ ∀ j, j < i → p j = false) ∧ (findN n p = none → ∀ j, j < n → p j = false)
  | 0 => ⟨fun i h => (by cases h), fun _ j hj => absurd hj (Nat.not_lt_zero _)⟩
  | n + 1 => by
    obtain ⟨h1, h2⟩ := findN_spec p n
    rw [findN_succ]
    cases e : findN n p with
    | some i =>
      obtain ⟨a, b, c⟩ := h1 i e
      exact ⟨fun j hj => by cases hj; exact ⟨by omega, b, c⟩, fun h => by cases h⟩
    | none =>
      have h3 := h2 e
      by_cases hp : p n = true
      · rw [if_pos hp]
        exact ⟨fun j hj => by cases hj; exact ⟨by omega, hp, h3⟩, fun h => by cases h⟩
      · rw [if_neg hp]
        refine ⟨(fun j hj => by cases hj), fun _ j hj => ?_⟩
        by_cases e2 : j = n
        · subst e2; simpa using hp
        · exact h3 j (by omega)
theorem findN_some {n : Nat} {p : Nat → Bool} {i : Nat} : findN n p = some i ↔ i < n ∧ p i = true ∧ ∀ j, j < i → p j = false := by
  refine ⟨(findN_spec p n).1 i, fun ⟨h1, h2, h3⟩ => ?_⟩
  cases e : findN n p with
  | none =>
    have := (findN_spec p n).2 e i h1
    rw [h2] at this; cases this
  | some k =>
    obtain ⟨a, b, c⟩ := (findN_spec p n).1 k e
    rcases Nat.lt_trichotomy i k with h | h | h
    · have := c i h; rw [h2] at this; cases this
    · rw [h]
    · have := h3 k h; rw [b] at this; cases this
theorem findN_none {n : Nat} {p : Nat → Bool} : findN n p = none ↔ ∀ j, j < n → p j = false := by
  refine ⟨(findN_spec p n).2, fun h => ?_⟩
  cases e : findN n p with
  | none => rfl
  | some k =>
    obtain ⟨a, b, c⟩ := (findN_spec p n).1 k e
    have := h k a; rw [b] at this; cases this
theorem findN_congr {n : Nat} {p q : Nat → Bool} (h : ∀ i, i < n → p i = q i) : findN n p = findN n q := by
  cases e : findN n q with
  | none =>
    rw [findN_none] at e ⊢
    intro j hj
    rw [h j hj]; exact e j hj
  | some i =>
    rw [findN_some] at e ⊢
    exact ⟨e.1, by rw [h i e.1]; exact e.2.1, fun j hj => by rw [h j (Nat.lt_trans hj e.1)]; exact e.2.2 j hj⟩
/-- a longer search finds no more -/
theorem findN_more {n n' : Nat} {p : Nat → Bool} (hn : n ≤ n') (h : (∀ j, j < n → p j = false) → ∀ j, j < n' → p j = false) : findN n' p = findN n p := by
  cases e : findN n p with
  | none =>
    rw [findN_none] at e ⊢
    exact h e
  | some i =>
    rw [findN_some] at e ⊢
    exact ⟨by omega, e.2⟩
/-! the measure, the shortest row -/
def perB (l : List Nat) (d : Nat) : Bool := decide (l.length % d = 0) && decide (sight (l.take d) 0 l.length = l)
def measure (l : List Nat) : Nat := match findN l.length fun i => perB l (i + 1) with
  | some i => i + 1
  | none => l.length
def shortest (l : List Nat) : List Nat := l.take (measure l)
theorem sg_take_iff {l : List Nat} {d : Nat} (h : 1 ≤ l.length) (hd : 1 ≤ d) (hv : d ∣ l.length) : sight (l.take d) 0 l.length = l ↔ Per l d := by
  have hle : d ≤ l.length := Nat.le_of_dvd (by omega) hv
  have hlt : (l.take d).length = d := by rw [List.length_take]; omega
  have p1 : FPer (sg (l.take d)) d := by
    have := per_len (l.take d)
    rw [hlt] at this
    exact this
  have p2 : FPer (sg l) l.length := per_len l
  constructor
  · intro e
    have p3 : FPer (sg (l.take d)) l.length := by
      obtain ⟨k, hk⟩ := hv
      rw [hk, Nat.mul_comm]
      exact p1.mul k
    have ag : ∀ m, sg (l.take d) m = sg l m := FPer.agree h p3 p2 fun k hk => by
      have h1 := sight_get (l.take d) 0 hk
      rw [e, List.getElem?_eq_getElem hk, Int.zero_add] at h1
      rw [sg_nat hk]
      exact (Option.some.inj h1).symm
    intro m
    rw [← ag, ← ag]
    exact p1 m
  · intro p
    have ag : ∀ m, sg (l.take d) m = sg l m := FPer.agree hd p1 p fun k hk => by
      rw [sg_nat (by omega), sg_nat (by omega), List.getElem_take]
    have : sight (l.take d) 0 l.length = sight l 0 l.length := sight_ext.mpr fun k _ => ag _
    rw [this, sight_self]
theorem perB_iff {l : List Nat} {d : Nat} (h : 1 ≤ l.length) (hd : 1 ≤ d) : perB l d = true ↔ d ∣ l.length ∧ Per l d := by
  unfold perB
  rw [Bool.and_eq_true, decide_eq_true_eq, decide_eq_true_eq]
  constructor
  · rintro ⟨h1, h2⟩
    have hv := Nat.dvd_of_mod_eq_zero h1
    exact ⟨hv, (sg_take_iff h hd hv).mp h2⟩
  · rintro ⟨h1, h2⟩
    exact ⟨Nat.mod_eq_zero_of_dvd h1, (sg_take_iff h hd h1).mpr h2⟩
theorem perB_len {l : List Nat} (h : 1 ≤ l.length) : perB l l.length = true := (perB_iff h h).mpr ⟨Nat.dvd_refl _, per_len l⟩
theorem measure_least {l : List Nat} (h : 1 ≤ l.length) : 1 ≤ measure l ∧ measure l ≤ l.length ∧ perB l (measure l) = true ∧ ∀ d, 1 ≤ d → d < measure l → perB l d = false := by
  unfold measure
  cases e : findN l.length fun i => perB l (i + 1) with
  | none =>
    rw [findN_none] at e
    have := e (l.length - 1) (by omega)
    rw [Nat.sub_add_cancel h, perB_len h] at this
    cases this
  | some i =>
    rw [findN_some] at e
    obtain ⟨h1, h2, h3⟩ := e
    refine ⟨by simp, by simp; omega, h2, fun d hd hlt => ?_⟩
    have hlt : d < i + 1 := hlt
    have := h3 (d - 1) (by omega)
    rw [Nat.sub_add_cancel hd] at this
    exact this
theorem measure_of {l : List Nat} (h : 1 ≤ l.length) {d : Nat} (hd : 1 ≤ d) (hp : perB l d = true) (hl : ∀ j, 1 ≤ j → j < d → perB l j = false) : measure l = d := by
  obtain ⟨h1, h2, h3, h4⟩ := measure_least h
  rcases Nat.lt_trichotomy (measure l) d with q | q | q
  · have := hl _ h1 q; rw [h3] at this; cases this
  · exact q
  · have := h4 d hd q; rw [hp] at this; cases this
theorem measure_spec {l : List Nat} (h : 1 ≤ l.length) : 1 ≤ measure l ∧ measure l ∣ l.length ∧ Per l (measure l) ∧ ∀ d, 1 ≤ d → Per l d → measure l ∣ d := by
  obtain ⟨h1, h2, h3, h4⟩ := measure_least h
  obtain ⟨h5, h6⟩ := (perB_iff h h1).mp h3
  refine ⟨h1, h5, h6, fun d hd hp => ?_⟩
  have hg : Per l (Nat.gcd (measure l) d) := FPer.gcd h6 hp
  have g0 : 1 ≤ Nat.gcd (measure l) d := Nat.gcd_pos_of_pos_right _ hd
  have gm : Nat.gcd (measure l) d ∣ measure l := Nat.gcd_dvd_left _ _
  have gb : perB l (Nat.gcd (measure l) d) = true := (perB_iff h g0).mpr ⟨Nat.dvd_trans gm h5, hg⟩
  have ge : Nat.gcd (measure l) d = measure l := by
    rcases Nat.lt_or_ge (Nat.gcd (measure l) d) (measure l) with q | q
    · have := h4 _ g0 q; rw [gb] at this; cases this
    · exact Nat.le_antisymm (Nat.le_of_dvd (by omega) gm) q
  rw [← ge]
  exact Nat.gcd_dvd_right _ _
theorem measure_le {l : List Nat} (h : 1 ≤ l.length) : measure l ≤ l.length := (measure_least h).2.1
theorem measure_pos {l : List Nat} (h : 1 ≤ l.length) : 1 ≤ measure l := (measure_least h).1
theorem shortest_len {l : List Nat} (h : 1 ≤ l.length) : (shortest l).length = measure l := by
  unfold shortest
  rw [List.length_take]
  have := measure_le h
  omega
theorem shortest_sight {l : List Nat} (h : 1 ≤ l.length) : shortest l = sight l 0 (measure l) := (sight_zero l (measure_le h)).symm
/-- a sight as long as a period, walked round -/
theorem sg_sight {l : List Nat} {d : Nat} (hd : 1 ≤ d) (hp : Per l d) (m x : Int) : sg (sight l m d) x = sg l (m + x) := by
  have p1 : FPer (sg (sight l m d)) d := by
    have := per_len (sight l m d)
    rw [sight_len] at this
    exact this
  have p2 : FPer (fun x => sg l (m + x)) d := fun x => by
    show sg l (m + (x + d)) = sg l (m + x)
    rw [← Int.add_assoc]; exact hp _
  refine FPer.agree (f := sg (sight l m d)) (g := fun x => sg l (m + x)) hd p1 p2 (fun k hk => ?_) x
  have e := sight_get l m hk
  have hk2 : k < (sight l m d).length := by rw [sight_len]; exact hk
  rw [List.getElem?_eq_getElem hk2] at e
  rw [sg_nat hk2]
  exact Option.some.inj e
theorem sg_shortest {l : List Nat} (h : 1 ≤ l.length) (x : Int) : sg (shortest l) x = sg l x := by
  rw [shortest_sight h, sg_sight (measure_pos h) (measure_spec h).2.2.1, Int.zero_add]
theorem measure_congr {a b : List Nat} (ha : 1 ≤ a.length) (hb : 1 ≤ b.length) (h : ∀ d, Per a d ↔ Per b d) : measure a = measure b := by
  obtain ⟨a1, _, a3, a4⟩ := measure_spec ha
  obtain ⟨b1, _, b3, b4⟩ := measure_spec hb
  exact Nat.dvd_antisymm (a4 _ b1 ((h _).mpr b3)) (b4 _ a1 ((h _).mp a3))
theorem per_congr {a b : List Nat} (h : ∀ x, sg a x = sg b x) (d : Nat) : Per a d ↔ Per b d :=
  ⟨fun p m => by rw [← h, ← h]; exact p m, fun p m => by rw [h, h]; exact p m⟩
theorem shortest_congr {a b : List Nat} (ha : 1 ≤ a.length) (hb : 1 ≤ b.length) (h : ∀ x, sg a x = sg b x) : shortest a = shortest b := by
  rw [shortest_sight ha, shortest_sight hb, measure_congr ha hb (per_congr h)]
  exact sight_ext.mpr fun k _ => h _
theorem shortest_shortest {l : List Nat} (h : 1 ≤ l.length) : shortest (shortest l) = shortest l :=
  shortest_congr (by rw [shortest_len h]; exact measure_pos h) h (sg_shortest h)
theorem measure_shortest {l : List Nat} (h : 1 ≤ l.length) : measure (shortest l) = measure l :=
  measure_congr (by rw [shortest_len h]; exact measure_pos h) h (per_congr (sg_shortest h))
theorem rep_sight {t : List Nat} (h : 1 ≤ t.length) : ∀ k, rep k t = sight t 0 (k * t.length)
  | 0 => by rw [Nat.zero_mul]; rfl
  | k + 1 => by
    have e : rep (k + 1) t = t ++ rep k t := by simp [rep, List.replicate_succ]
    rw [e, Nat.succ_mul, Nat.add_comm, sight_append, sight_self, rep_sight h k, sight_add_len]
theorem sg_twice {l : List Nat} (h : 1 ≤ l.length) (x : Int) : sg (l ++ l) x = sg l x := by
  have e : l ++ l = sight l 0 (2 * l.length) := by
    rw [← rep_sight h]
    simp [rep]
  rw [e, sg_sight (by omega) (FPer.mul (f := sg l) (per_len l) 2), Int.zero_add]
/-- the law's test of a piece -/
theorem rep_take_iff {l : List Nat} {d : Nat} (h : 1 ≤ l.length) (hd : 1 ≤ d) (hv : l.length % d = 0) : (rep (l.length / d) (l.take d) = l) ↔ sight (l.take d) 0 l.length = l := by
  have hv' := Nat.dvd_of_mod_eq_zero hv
  have hle : d ≤ l.length := Nat.le_of_dvd (by omega) hv'
  have hlt : (l.take d).length = d := by rw [List.length_take]; omega
  rw [rep_sight (by omega), hlt, Nat.div_mul_cancel hv']
theorem good_take {l : List Nat} (h : Good l) {d : Nat} (hd : 1 ≤ d) : Good (l.take d) := by
  obtain ⟨h1, h2, h3⟩ := h
  refine ⟨?_, ?_, fun c hc => h3 c (List.mem_of_mem_take hc)⟩
  · rw [List.length_take]; omega
  · rw [List.length_take]; omega
theorem good_sight {l : List Nat} (h : Good l) (m : Int) {n : Nat} (hn : 1 ≤ n) (hn2 : n ≤ 12) : Good (sight l m n) := by
  refine ⟨by rw [sight_len]; exact hn, by rw [sight_len]; exact hn2, fun c hc => ?_⟩
  unfold sight at hc
  obtain ⟨k, _, e⟩ := List.mem_map.mp hc
  rw [← e]
  exact h.2.2 _ (sg_mem h.1 _)
theorem good_shortest {l : List Nat} (h : Good l) : Good (shortest l) := good_take h (measure_pos h.1)
/-! turns -/
def Looks (a : List Nat) (m : Int) (b : List Nat) : Prop := ∀ x : Int, sg a (m + x) = sg b x
def turnV (a b : List Nat) : Option Nat := if measure a = measure b then findN (measure a) fun m => decide (sight (shortest a) (m : Int) (measure a) = shortest b) else none
theorem looks_per {a b : List Nat} {m : Int} (h : Looks a m b) (d : Nat) : Per a d ↔ Per b d := by
  constructor
  · intro p x
    rw [← h, ← h, ← Int.add_assoc]; exact p _
  · intro p x
    have e1 := h (x - m)
    have e2 := h (x - m + (d : Int))
    rw [show m + (x - m) = x by omega] at e1
    rw [show m + (x - m + (d : Int)) = x + (d : Int) by omega] at e2
    rw [e1, e2]; exact p _
theorem looks_measure {a b : List Nat} (ha : 1 ≤ a.length) (hb : 1 ≤ b.length) {m : Int} (h : Looks a m b) : measure a = measure b := measure_congr ha hb (looks_per h)
theorem looks_iff {a b : List Nat} (ha : 1 ≤ a.length) (hb : 1 ≤ b.length) (e : measure a = measure b) (m : Int) : sight (shortest a) m (measure a) = shortest b ↔ Looks a m b := by
  obtain ⟨a1, _, a3, _⟩ := measure_spec ha
  obtain ⟨b1, _, b3, _⟩ := measure_spec hb
  rw [shortest_sight hb, ← e, sight_ext]
  constructor
  · intro h x
    have p1 : FPer (fun x => sg a (m + x)) (measure a) := fun x => by
      show sg a (m + (x + (measure a : Int))) = sg a (m + x)
      rw [← Int.add_assoc]; exact a3 _
    have p2 : FPer (sg b) (measure a) := by rw [e]; exact b3
    refine FPer.agree (f := fun x => sg a (m + x)) (g := sg b) a1 p1 p2 (fun k hk => ?_) x
    have := h k hk
    rw [sg_shortest ha, Int.zero_add] at this
    exact this
  · intro h k _
    rw [sg_shortest ha, Int.zero_add]
    exact h _
theorem looks_mod {a b : List Nat} (ha : 1 ≤ a.length) {m : Int} (h : Looks a m b) : Looks a (m % (measure a : Int)) b := fun x => by
  obtain ⟨a1, _, a3, _⟩ := measure_spec ha
  have e : m % (measure a : Int) + x = (m + x) + (-(m / (measure a : Int))) * (measure a : Int) := by
    have := Int.emod_add_mul_ediv m (measure a : Int)
    rw [Int.neg_mul, Int.mul_comm]
    omega
  rw [e, FPer.mulI (f := sg a) a3]
  exact h x
theorem turnV_some {a b : List Nat} (ha : 1 ≤ a.length) (hb : 1 ≤ b.length) {t : Nat} : turnV a b = some t ↔ Looks a t b ∧ ∀ j : Nat, j < t → ¬ Looks a j b := by
  unfold turnV
  constructor
  · intro h
    by_cases e : measure a = measure b
    · rw [if_pos e, findN_some] at h
      obtain ⟨_, h2, h3⟩ := h
      exact ⟨(looks_iff ha hb e _).mp (of_decide_eq_true h2), fun j hj hl => of_decide_eq_false (h3 j hj) ((looks_iff ha hb e _).mpr hl)⟩
    · rw [if_neg e] at h; cases h
  · rintro ⟨h1, h2⟩
    have e := looks_measure ha hb h1
    rw [if_pos e, findN_some]
    have m1 := measure_pos ha
    refine ⟨?_, decide_eq_true ((looks_iff ha hb e _).mpr h1), fun j hj => decide_eq_false fun z => h2 j hj ((looks_iff ha hb e _).mp z)⟩
    refine Nat.lt_of_not_le fun hle => ?_
    have h3 := looks_mod ha h1
    have h4 : (t : Int) % (measure a : Int) < measure a := Int.emod_lt_of_pos _ (by omega)
    have h5 : 0 ≤ (t : Int) % (measure a : Int) := Int.emod_nonneg _ (by omega)
    refine h2 ((t : Int) % (measure a : Int)).toNat (by omega) ?_
    rw [Int.toNat_of_nonneg h5]
    exact h3
theorem turnV_none {a b : List Nat} (ha : 1 ≤ a.length) (hb : 1 ≤ b.length) : turnV a b = none ↔ ∀ m : Int, ¬ Looks a m b := by
  unfold turnV
  constructor
  · intro h m hl
    have e := looks_measure ha hb hl
    rw [if_pos e, findN_none] at h
    have m1 := measure_pos ha
    have h3 := looks_mod ha hl
    have h4 : m % (measure a : Int) < measure a := Int.emod_lt_of_pos _ (by omega)
    have h5 : 0 ≤ m % (measure a : Int) := Int.emod_nonneg _ (by omega)
    have := h (m % (measure a : Int)).toNat (by omega)
    rw [Int.toNat_of_nonneg h5] at this
    exact of_decide_eq_false this ((looks_iff ha hb e _).mpr h3)
  · intro h
    by_cases e : measure a = measure b
    · rw [if_pos e, findN_none]
      exact fun j _ => decide_eq_false fun z => h _ ((looks_iff ha hb e _).mp z)
    · rw [if_neg e]
theorem turnV_lt {a b : List Nat} {t : Nat} (h : turnV a b = some t) : t < measure a := by
  unfold turnV at h
  by_cases e : measure a = measure b
  · rw [if_pos e, findN_some] at h
    exact h.1
  · rw [if_neg e] at h; cases h
/-! partings -/
def diff (a : List Nat) (m : Int) (b : List Nat) (m' : Int) (k : Nat) : Bool := decide (sg a (m + (k : Int)) ≠ sg b (m' + (k : Int)))
def partV (a : List Nat) (m : Int) (b : List Nat) (m' : Int) : Option Nat := (findN (a.length + b.length) (diff a m b m')).map (· + 1)
def Alike (a : List Nat) (m : Int) (b : List Nat) (m' : Int) : Prop := ∀ x : Int, sg a (m + x) = sg b (m' + x)
theorem fper_shift {l : List Nat} {d : Nat} (h : Per l d) (m : Int) : FPer (fun x => sg l (m + x)) d := fun x => by
  show sg l (m + (x + (d : Int))) = sg l (m + x)
  rw [← Int.add_assoc]; exact h _
theorem alike_of {a b : List Nat} {m m' : Int} {p q : Nat} (hp : 1 ≤ p) (hq : 1 ≤ q) (pa : Per a p) (pb : Per b q) (h : ∀ k, k < p + q - Nat.gcd p q → diff a m b m' k = false) : Alike a m b m' :=
  agree_ever (f := fun x => sg a (m + x)) (g := fun x => sg b (m' + x)) hp hq (fper_shift pa m) (fper_shift pb m') fun k hk => Classical.byContradiction fun z => of_decide_eq_false (h k hk) z
theorem alike_diff {a b : List Nat} {m m' : Int} (h : Alike a m b m') (k : Nat) : diff a m b m' k = false := decide_eq_false fun z => z (h k)
theorem alike_len {a b : List Nat} (ha : 1 ≤ a.length) (hb : 1 ≤ b.length) {m m' : Int} (h : ∀ k, k < a.length + b.length → diff a m b m' k = false) : Alike a m b m' :=
  alike_of ha hb (per_len a) (per_len b) fun k hk => h k (by omega)
theorem partV_more {a b : List Nat} (ha : 1 ≤ a.length) (hb : 1 ≤ b.length) (m m' : Int) {n : Nat} (hn : a.length + b.length ≤ n) : (findN n (diff a m b m')).map (· + 1) = partV a m b m' := by
  unfold partV
  rw [findN_more hn fun h j _ => alike_diff (alike_len ha hb h) j]
theorem partV_none {a b : List Nat} (ha : 1 ≤ a.length) (hb : 1 ≤ b.length) {m m' : Int} : partV a m b m' = none ↔ Alike a m b m' := by
  unfold partV
  rw [Option.map_eq_none_iff, findN_none]
  exact ⟨fun h => alike_len ha hb h, fun h j _ => alike_diff h j⟩
theorem partV_some {a b : List Nat} {m m' : Int} {d : Nat} (h : partV a m b m' = some d) : ∃ k, d = k + 1 ∧ k < a.length + b.length ∧ diff a m b m' k = true ∧ ∀ j, j < k → diff a m b m' j = false := by
  unfold partV at h
  obtain ⟨k, h1, h2⟩ := Option.map_eq_some_iff.mp h
  rw [findN_some] at h1
  exact ⟨k, h2.symm, h1⟩
theorem diff_comm (a : List Nat) (m : Int) (b : List Nat) (m' : Int) (k : Nat) : diff a m b m' k = diff b m' a m k := by
  unfold diff
  rw [decide_eq_decide]
  exact ⟨fun h e => h e.symm, fun h e => h e.symm⟩
theorem partV_comm (a : List Nat) (m : Int) (b : List Nat) (m' : Int) : partV a m b m' = partV b m' a m := by
  unfold partV
  rw [Nat.add_comm, findN_congr fun i _ => diff_comm a m b m' i]
theorem part_soon {a b : List Nat} (ha : 1 ≤ a.length) (hb : 1 ≤ b.length) {m m' : Int} {d : Nat} (h : partV a m b m' = some d) : d ≤ measure a + measure b - Nat.gcd (measure a) (measure b) := by
  obtain ⟨k, rfl, _, h2, h3⟩ := partV_some h
  obtain ⟨a1, _, a3, _⟩ := measure_spec ha
  obtain ⟨b1, _, b3, _⟩ := measure_spec hb
  refine Nat.lt_of_not_le fun hle => ?_
  have := alike_diff (alike_of (m := m) (m' := m') a1 b1 a3 b3 fun j hj => h3 j (by omega)) k
  rw [h2] at this
  cases this
theorem alike_measure {a b : List Nat} (ha : 1 ≤ a.length) (hb : 1 ≤ b.length) {m m' : Int} (h : Alike a m b m') : measure a = measure b := by
  refine measure_congr ha hb fun d => ⟨fun p x => ?_, fun p x => ?_⟩
  · have e1 := h (x - m'); have e2 := h (x - m' + d)
    rw [show m' + (x - m') = x by omega] at e1
    rw [show m' + (x - m' + (d : Int)) = x + d by omega] at e2
    rw [← e1, ← e2, show m + (x - m' + (d : Int)) = m + (x - m') + d by omega]; exact p _
  · have e1 := h (x - m); have e2 := h (x - m + d)
    rw [show m + (x - m) = x by omega] at e1
    rw [show m + (x - m + (d : Int)) = x + d by omega] at e2
    rw [e1, e2, show m' + (x - m + (d : Int)) = m' + (x - m) + d by omega]; exact p _
theorem sight_diff {a b : List Nat} {m m' : Int} {n : Nat} : sight a m n = sight b m' n ↔ ∀ k, k < n → diff a m b m' k = false := by
  rw [sight_ext]
  constructor
  · intro h k hk
    exact decide_eq_false fun z => z (h k hk)
  · intro h k hk
    exact Classical.byContradiction fun z => of_decide_eq_false (h k hk) z
/-- the law of turns: looked at over 24 signs -/
theorem look24 {a b : List Nat} (ha : Good a) (hb : Good b) (m : Int) : sight a m 24 = sight b 0 24 ↔ Looks a m b := by
  rw [sight_diff]
  have h1 := ha.2.1; have h2 := hb.2.1
  constructor
  · intro h x
    have := alike_len ha.1 hb.1 (m := m) (m' := 0) (fun k hk => h k (by omega)) x
    rw [Int.zero_add] at this
    exact this
  · intro h k _
    refine alike_diff (fun x => ?_) k
    rw [Int.zero_add]
    exact h x
theorem turn24 {a b : List Nat} (ha : Good a) (hb : Good b) : turnV a b = findN 12 fun m => decide (sight a (m : Int) 24 = sight b 0 24) := by
  cases e : turnV a b with
  | none =>
    rw [turnV_none ha.1 hb.1] at e
    symm
    rw [findN_none]
    exact fun j _ => decide_eq_false fun z => e _ ((look24 ha hb _).mp z)
  | some t =>
    have hl := turnV_lt e
    rw [turnV_some ha.1 hb.1] at e
    symm
    rw [findN_some]
    have := measure_le ha.1
    have := ha.2.1
    exact ⟨by omega, decide_eq_true ((look24 ha hb _).mpr e.1), fun j hj => decide_eq_false fun z => e.2 j hj ((look24 ha hb _).mp z)⟩
theorem good_turned {l : List Nat} (h : Good l) (n : Nat) : Good (l.drop n ++ l.take n) := by
  obtain ⟨h1, h2, h3⟩ := h
  have e : (l.drop n ++ l.take n).length = l.length := by rw [List.length_append, List.length_drop, List.length_take]; omega
  refine ⟨by omega, by omega, fun c hc => ?_⟩
  rcases List.mem_append.mp hc with z | z
  · exact h3 c (List.mem_of_mem_drop z)
  · exact h3 c (List.mem_of_mem_take z)
theorem good_twice {l : List Nat} (h : Good l) (hl : l.length < 7) : Good (l ++ l) := by
  obtain ⟨h1, h2, h3⟩ := h
  refine ⟨by rw [List.length_append]; omega, by rw [List.length_append]; omega, fun c hc => ?_⟩
  rcases List.mem_append.mp hc with z | z <;> exact h3 c z
/-- what a search from the end has found behind i turns -/
def DownTo (n i : Nat) (p : Nat → Bool) (d : Option Nat) : Prop :=
  (d = none → ∀ j, n - i ≤ j → j < n → p j = false) ∧ (∀ m, d = some m → n - i ≤ m ∧ m < n ∧ p m = true ∧ ∀ j, n - i ≤ j → j < m → p j = false)
theorem downTo_start (n : Nat) (p : Nat → Bool) : DownTo n 0 p none := ⟨fun _ j h1 h2 => (by omega), fun m h => (by cases h)⟩
theorem downTo_yes {n i : Nat} {p : Nat → Bool} {d : Option Nat} (_h : DownTo n i p d) (hi : i < n) (hp : p (n - 1 - i) = true) : DownTo n (i + 1) p (some (n - 1 - i)) :=
  ⟨fun h => (by cases h), fun m h => (by cases h; exact ⟨by omega, by omega, hp, fun j h1 h2 => (by omega)⟩)⟩
theorem downTo_no {n i : Nat} {p : Nat → Bool} {d : Option Nat} (h : DownTo n i p d) (hi : i < n) (hp : p (n - 1 - i) = false) : DownTo n (i + 1) p d := by
  refine ⟨fun hd j h1 h2 => ?_, fun m hm => ?_⟩
  · by_cases e : j = n - 1 - i
    · rw [e]; exact hp
    · exact h.1 hd j (by omega) h2
  · obtain ⟨a, b, c, e⟩ := h.2 m hm
    refine ⟨by omega, b, c, fun j h1 h2 => ?_⟩
    by_cases ej : j = n - 1 - i
    · rw [ej]; exact hp
    · exact e j (by omega) h2
theorem downTo_end {n : Nat} {p : Nat → Bool} {d : Option Nat} (h : DownTo n n p d) : d = findN n p := by
  cases d with
  | none =>
    symm
    rw [findN_none]
    exact fun j hj => h.1 rfl j (by omega) hj
  | some m =>
    obtain ⟨_, b, c, e⟩ := h.2 m rfl
    symm
    rw [findN_some]
    exact ⟨b, c, fun j hj => e j (by omega) hj⟩
theorem turn_none_sym {a b : List Nat} (ha : 1 ≤ a.length) (hb : 1 ≤ b.length) : turnV a b = none ↔ turnV b a = none := by
  rw [turnV_none ha hb, turnV_none hb ha]
  have key : ∀ (a b : List Nat) (m : Int), Looks a m b → Looks b (-m) a := fun a b m h x => by
    rw [← h]
    congr 1
    omega
  exact ⟨fun h m hl => h _ (key _ _ _ hl), fun h m hl => h _ (key _ _ _ hl)⟩
/-- the light that is seen for a measure -/
theorem turned_facts {l : List Nat} (hl : Good l) (m : Int) : ∃ t b : Nat, turnV l (sight l m (measure l)) = some t ∧ turnV (sight l m (measure l)) l = some b ∧ measure (sight l m (measure l)) = measure l ∧
    t < measure l ∧ b < measure l ∧ ((t : Int) + (b : Int)) % (measure l : Int) = 0 ∧ Looks l t (sight l m (measure l)) ∧ Looks (sight l m (measure l)) b l := by
  obtain ⟨m1, m2, m3, m4⟩ := measure_spec hl.1
  have ho : 1 ≤ (sight l m (measure l)).length := by rw [sight_len]; exact m1
  have look : Looks l m (sight l m (measure l)) := fun x => (sg_sight m1 m3 m x).symm
  have look2 : Looks (sight l m (measure l)) (-m) l := fun x => by
    rw [sg_sight m1 m3]
    congr 1
    omega
  have em := looks_measure hl.1 ho look
  cases e1 : turnV l (sight l m (measure l)) with
  | none => exact absurd look ((turnV_none hl.1 ho).mp e1 m)
  | some t =>
    cases e2 : turnV (sight l m (measure l)) l with
    | none => exact absurd look2 ((turnV_none ho hl.1).mp e2 (-m))
    | some b =>
      have lt1 := turnV_lt e1
      have lt2 := turnV_lt e2
      have k1 := ((turnV_some hl.1 ho).mp e1).1
      have k2 := ((turnV_some ho hl.1).mp e2).1
      refine ⟨t, b, rfl, rfl, em.symm, lt1, by rw [em]; exact lt2, ?_, k1, k2⟩
      have hper : Per l (t + b) := fun x => by
        have e3 := k1 ((b : Int) + x)
        rw [k2 x] at e3
        rw [← e3]
        congr 1
        rw [Int.natCast_add]
        omega
      by_cases h0 : t + b = 0
      · rw [show (t : Int) + (b : Int) = 0 by omega]
        rfl
      · have hd := m4 _ (by omega) hper
        rw [← Int.natCast_add]
        exact Int.emod_eq_zero_of_dvd (Int.natCast_dvd_natCast.mpr hd)
/-! books -/
def Book (ls : List (List Nat)) : Prop := 1 ≤ ls.length ∧ ls.length ≤ 5 ∧ ∀ l ∈ ls, Good l
theorem sum_le : ∀ (ls : List (List Nat)), (∀ l ∈ ls, l.length ≤ 12) → (ls.map List.length).sum ≤ ls.length * 12
  | [], _ => Nat.le_refl _
  | l :: ls, h => by
    have h1 := h l (List.mem_cons_self ..)
    have h2 := sum_le ls fun x hx => h x (List.mem_cons_of_mem _ hx)
    rw [List.map_cons, List.sum_cons, List.length_cons, Nat.succ_mul]
    omega
theorem book_sum {ls : List (List Nat)} (h : Book ls) : (ls.map List.length).sum ≤ 60 := by
  have h1 := sum_le ls fun l hl => (h.2.2 l hl).2.1
  have := h.2.1
  omega
end Lw

set_option linter.all false
set_option maxHeartbeats 4000000
/-! Lampwatch: books: spots, what a sight fits, the watch, the twins, in plain Lean. -/
namespace Lw
abbrev lt (ls : List (List Nat)) (i : Nat) : List Nat := ls.getD i []
theorem lt_get {ls : List (List Nat)} {i : Nat} (h : i < ls.length) : ls[i]? = some (lt ls i) := by
  unfold lt
  rw [List.getD_eq_getElem?_getD, List.getElem?_eq_getElem h]
  rfl
theorem lt_of {ls : List (List Nat)} {i : Nat} {l : List Nat} (h : ls[i]? = some l) : lt ls i = l := by
  unfold lt
  rw [List.getD_eq_getElem?_getD, h]
  rfl
theorem lt_good {ls : List (List Nat)} (hb : Book ls) {i : Nat} (h : i < ls.length) : Good (lt ls i) := hb.2.2 _ (List.mem_of_getElem? (lt_get h))
def spN (ls : List (List Nat)) (n : Nat) : List (Nat × Nat) := (List.range n).flatMap fun i => (List.range (measure (lt ls i))).map fun m => (i, m)
abbrev spV (ls : List (List Nat)) : List (Nat × Nat) := spN ls ls.length
def pr (z : Nat × Nat) : List Int := [(z.1 : Int), (z.2 : Int)]
theorem spN_succ (ls : List (List Nat)) (n : Nat) : spN ls (n + 1) = spN ls n ++ (List.range (measure (lt ls n))).map fun m => (n, m) := by
  unfold spN
  rw [List.range_succ, List.flatMap_append, List.flatMap_cons, List.flatMap_nil, List.append_nil]
theorem mem_spN {ls : List (List Nat)} {n : Nat} {z : Nat × Nat} : z ∈ spN ls n ↔ z.1 < n ∧ z.2 < measure (lt ls z.1) := by
  unfold spN
  rw [List.mem_flatMap]
  constructor
  · rintro ⟨i, hi, h⟩
    obtain ⟨m, hm, e⟩ := List.mem_map.mp h
    rw [← e]
    exact ⟨List.mem_range.mp hi, List.mem_range.mp hm⟩
  · rintro ⟨h1, h2⟩
    exact ⟨z.1, List.mem_range.mpr h1, List.mem_map.mpr ⟨z.2, List.mem_range.mpr h2, rfl⟩⟩
theorem measure_12 {l : List Nat} (h : Good l) : measure l ≤ 12 := Nat.le_trans (measure_le h.1) h.2.1
theorem spN_len {ls : List (List Nat)} (hb : Book ls) : ∀ n, n ≤ ls.length → (spN ls n).length ≤ 12 * n
  | 0, _ => by simp [spN]
  | n + 1, h => by
    have h1 := spN_len hb n (by omega)
    have h2 := measure_12 (lt_good hb (show n < ls.length by omega))
    rw [spN_succ, List.length_append, List.length_map, List.length_range]
    omega
theorem spV_len {ls : List (List Nat)} (hb : Book ls) : (spV ls).length ≤ 60 := by
  have := spN_len hb ls.length (Nat.le_refl _)
  have := hb.2.1
  show (spN ls ls.length).length ≤ 60
  omega
theorem sp_at {ls : List (List Nat)} {i : Nat} {z : Nat × Nat} (h : (spV ls)[i]? = some z) : z.1 < ls.length ∧ z.2 < measure (lt ls z.1) := mem_spN.mp (List.mem_of_getElem? h)
def fitP (ls : List (List Nat)) (s : List Nat) (z : Nat × Nat) : Bool := decide (sight (lt ls z.1) (z.2 : Int) s.length = s)
def fitV (ls : List (List Nat)) (s : List Nat) : List (Nat × Nat) := (spV ls).filter (fitP ls s)
theorem mem_fitV {ls : List (List Nat)} {s : List Nat} {z : Nat × Nat} : z ∈ fitV ls s ↔ (z.1 < ls.length ∧ z.2 < measure (lt ls z.1)) ∧ sight (lt ls z.1) (z.2 : Int) s.length = s := by
  unfold fitV
  rw [List.mem_filter, mem_spN]
  unfold fitP
  rw [decide_eq_true_eq]
theorem fitV_len {ls : List (List Nat)} (hb : Book ls) (s : List Nat) : (fitV ls s).length ≤ 60 := Nat.le_trans (List.length_filter_le _ _) (spV_len hb)
theorem range_getD {α : Type} (l : List α) (d : α) : (List.range l.length).map (fun i => l.getD i d) = l := by
  refine List.ext_getElem? fun i => ?_
  rw [List.getElem?_map]
  by_cases h : i < l.length
  · rw [List.getElem?_range h, List.getElem?_eq_getElem h]
    show some (l.getD i d) = _
    rw [List.getD_eq_getElem?_getD, List.getElem?_eq_getElem h]
    rfl
  · rw [List.getElem?_eq_none (by rw [List.length_range]; omega), List.getElem?_eq_none (by omega)]
    rfl
/-- a filter over the places -/
theorem filt_range {α β : Type} (l : List α) (d : α) (f : α → Bool) (g : α → β) : ((List.range l.length).filter fun i => f (l.getD i d)).map (fun i => g (l.getD i d)) = (l.filter f).map g := by
  have e : l.filter f = ((List.range l.length).map (fun i => l.getD i d)).filter f := by rw [range_getD]
  rw [e, List.filter_map, List.map_map]
  rfl
theorem getD_at {α : Type} {l : List α} {i : Nat} {d x : α} (h : l[i]? = some x) : l.getD i d = x := by
  rw [List.getD_eq_getElem?_getD, h]
  rfl
theorem take_snoc {α : Type} {l : List α} {i : Nat} {x : α} (h : l[i]? = some x) : l.take (i + 1) = l.take i ++ [x] := by
  rw [List.take_succ, h]
  rfl
/-! the watch -/
def part2 (ls : List (List Nat)) (z y : Nat × Nat) : Option Nat := partV (lt ls z.1) z.2 (lt ls y.1) y.2
def mx (d : Nat) : Option Nat → Nat
  | none => d
  | some n => if n > d then n else d
def inn (ls : List (List Nat)) (z : Nat × Nat) (zs : List (Nat × Nat)) (d : Nat) : Nat := zs.foldl (fun d y => mx d (part2 ls z y)) d
def wat (ls : List (List Nat)) (sp : List (Nat × Nat)) : Nat → Nat
  | 0 => 0
  | k + 1 => inn ls (sp.getD k (0, 0)) (sp.take k) (wat ls sp k)
def watV (ls : List (List Nat)) : Nat := wat ls (spV ls) (spV ls).length
theorem inn_snoc (ls : List (List Nat)) (z : Nat × Nat) (zs : List (Nat × Nat)) (y : Nat × Nat) (d : Nat) : inn ls z (zs ++ [y]) d = mx (inn ls z zs d) (part2 ls z y) := by
  unfold inn
  rw [List.foldl_append]
  rfl
theorem mx_le (d : Nat) (o : Option Nat) : d ≤ mx d o := by
  cases o with
  | none => exact Nat.le_refl _
  | some n =>
    unfold mx
    simp only
    split <;> omega
theorem mx_some (d n : Nat) : n ≤ mx d (some n) := by
  unfold mx
  simp only
  split <;> omega
theorem inn_spec (ls : List (List Nat)) (z : Nat × Nat) : ∀ (zs : List (Nat × Nat)) (d : Nat), d ≤ inn ls z zs d ∧ (∀ y ∈ zs, ∀ n, part2 ls z y = some n → n ≤ inn ls z zs d) ∧ (inn ls z zs d = d ∨ ∃ y ∈ zs, part2 ls z y = some (inn ls z zs d))
  | [], d => ⟨Nat.le_refl _, fun y hy => (nomatch hy), .inl rfl⟩
  | y :: zs, d => by
    obtain ⟨h1, h2, h3⟩ := inn_spec ls z zs (mx d (part2 ls z y))
    have e : inn ls z (y :: zs) d = inn ls z zs (mx d (part2 ls z y)) := rfl
    rw [e]
    have hm := mx_le d (part2 ls z y)
    refine ⟨Nat.le_trans hm h1, fun y' hy' n hn => ?_, ?_⟩
    · rcases List.mem_cons.mp hy' with rfl | h
      · rw [hn] at h1 ⊢
        exact Nat.le_trans (mx_some d n) h1
      · exact h2 y' h n hn
    · rcases h3 with h | ⟨y', hy', h⟩
      · rw [h]
        cases ep : part2 ls z y with
        | none => exact .inl rfl
        | some n =>
          by_cases hgt : n > d
          · refine .inr ⟨y, List.mem_cons_self .., ?_⟩
            rw [ep]
            show some n = some (mx d (some n))
            unfold mx
            simp only
            rw [if_pos hgt]
          · left
            unfold mx
            simp only
            rw [if_neg hgt]
      · exact .inr ⟨y', List.mem_cons_of_mem _ hy', h⟩
theorem wat_spec (ls : List (List Nat)) (sp : List (Nat × Nat)) : ∀ k, k ≤ sp.length → (∀ i j z y, i < k → j < i → sp[i]? = some z → sp[j]? = some y → ∀ n, part2 ls z y = some n → n ≤ wat ls sp k) ∧
    (wat ls sp k = 0 ∨ ∃ i j z y, i < k ∧ j < i ∧ sp[i]? = some z ∧ sp[j]? = some y ∧ part2 ls z y = some (wat ls sp k))
  | 0, _ => ⟨fun i j z y hi => absurd hi (Nat.not_lt_zero _), .inl rfl⟩
  | k + 1, hk => by
    obtain ⟨h1, h2⟩ := wat_spec ls sp k (by omega)
    have hk' : k < sp.length := by omega
    have ek : sp[k]? = some (sp.getD k (0, 0)) := by
      rw [List.getD_eq_getElem?_getD, List.getElem?_eq_getElem hk']
      rfl
    obtain ⟨i1, i2, i3⟩ := inn_spec ls (sp.getD k (0, 0)) (sp.take k) (wat ls sp k)
    refine ⟨fun i j z y hi hj hz hy n hn => ?_, ?_⟩
    · by_cases e : i = k
      · subst e
        rw [ek] at hz
        have := Option.some.inj hz
        subst this
        refine i2 y (List.mem_of_getElem? (i := j) ?_) n hn
        rw [List.getElem?_take_of_lt hj]
        exact hy
      · exact Nat.le_trans (h1 i j z y (by omega) hj hz hy n hn) i1
    · rcases i3 with h | ⟨y, hy, h⟩
      · rcases h2 with h0 | ⟨i, j, z, y, a, b, c, d, e⟩
        · exact .inl (h.trans h0)
        · exact .inr ⟨i, j, z, y, by omega, b, c, d, e.trans (congrArg some h.symm)⟩
      · obtain ⟨j, hj⟩ := List.getElem?_of_mem hy
        have hjk : j < k := by
          rcases Nat.lt_or_ge j k with q | q
          · exact q
          · rw [List.getElem?_eq_none (by rw [List.length_take]; omega)] at hj; cases hj
        rw [List.getElem?_take_of_lt hjk] at hj
        exact .inr ⟨k, j, _, y, by omega, hjk, ek, hj, h⟩
theorem part2_comm (ls : List (List Nat)) (z y : Nat × Nat) : part2 ls z y = part2 ls y z := partV_comm _ _ _ _
/-- no two spots part later than the watch -/
theorem wat_ge {ls : List (List Nat)} {z y : Nat × Nat} {n : Nat} (hb : Book ls) (hz : z ∈ spV ls) (hy : y ∈ spV ls) (h : part2 ls z y = some n) : n ≤ watV ls := by
  obtain ⟨h1, _⟩ := wat_spec ls (spV ls) (spV ls).length (Nat.le_refl _)
  obtain ⟨i, hi⟩ := List.getElem?_of_mem hz
  obtain ⟨j, hj⟩ := List.getElem?_of_mem hy
  have li : i < (spV ls).length := (List.getElem?_eq_some_iff.mp hi).1
  have lj : j < (spV ls).length := (List.getElem?_eq_some_iff.mp hj).1
  rcases Nat.lt_trichotomy i j with q | q | q
  · exact h1 j i y z lj q hj hi n (by rw [part2_comm]; exact h)
  · subst q
    rw [hi] at hj
    have := Option.some.inj hj
    subst this
    have g := lt_good hb (mem_spN.mp hz).1
    have : part2 ls z z = none := (partV_none g.1 g.1).mpr fun x => rfl
    rw [this] at h
    cases h
  · exact h1 i j z y li q hi hj n h
theorem wat_le {ls : List (List Nat)} (hb : Book ls) : watV ls ≤ 24 := by
  obtain ⟨_, h2⟩ := wat_spec ls (spV ls) (spV ls).length (Nat.le_refl _)
  rcases h2 with h | ⟨i, j, z, y, _, _, hz, hy, h⟩
  · unfold watV; omega
  · obtain ⟨k, e, hk, _⟩ := partV_some h
    have g1 := (lt_good hb (sp_at hz).1).2.1
    have g2 := (lt_good hb (sp_at hy).1).2.1
    unfold watV
    omega
/-- what a sight of as many signs as the watch fits is alike for ever -/
theorem watch_enough {ls : List (List Nat)} (hb : Book ls) {i : Nat} (hi : i < ls.length) (m : Int) {z : Nat × Nat} (hz : z ∈ fitV ls (sight (lt ls i) m (watV ls))) : partV (lt ls i) m (lt ls z.1) z.2 = none := by
  obtain ⟨⟨z1, z2⟩, z3⟩ := mem_fitV.mp hz
  rw [sight_len] at z3
  have gi := lt_good hb hi
  have gz := lt_good hb z1
  obtain ⟨m1, _, m3, _⟩ := measure_spec gi.1
  have h4 : m % (measure (lt ls i) : Int) < measure (lt ls i) := Int.emod_lt_of_pos _ (by omega)
  have h5 : 0 ≤ m % (measure (lt ls i) : Int) := Int.emod_nonneg _ (by omega)
  have same : ∀ x : Int, sg (lt ls i) (((m % (measure (lt ls i) : Int)).toNat : Int) + x) = sg (lt ls i) (m + x) := fun x => by
    rw [Int.toNat_of_nonneg h5]
    have e : m % (measure (lt ls i) : Int) + x = (m + x) + (-(m / (measure (lt ls i) : Int))) * (measure (lt ls i) : Int) := by
      have := Int.emod_add_mul_ediv m (measure (lt ls i) : Int)
      rw [Int.neg_mul, Int.mul_comm]
      omega
    rw [e, FPer.mulI (f := sg (lt ls i)) m3]
  cases e : partV (lt ls i) m (lt ls z.1) z.2 with
  | none => rfl
  | some d =>
    have e2 : part2 ls (i, (m % (measure (lt ls i) : Int)).toNat) z = some d := by
      rw [← e]
      unfold part2 partV
      refine congrArg (Option.map (· + 1)) (findN_congr fun k _ => ?_)
      unfold diff
      rw [decide_eq_decide]
      show sg (lt ls i) (((m % (measure (lt ls i) : Int)).toNat : Int) + (k : Int)) ≠ _ ↔ _
      rw [same]
    have hle := wat_ge hb (mem_spN.mpr ⟨hi, by show (m % (measure (lt ls i) : Int)).toNat < measure (lt ls i); omega⟩) (mem_spN.mpr ⟨z1, z2⟩) e2
    obtain ⟨k, rfl, _, h2, _⟩ := partV_some e
    have := sight_diff.mp z3.symm k (by omega)
    rw [h2] at this
    cases this
/-- one sign fewer is not enough -/
theorem watch_least {ls : List (List Nat)} (hb : Book ls) (h0 : watV ls ≠ 0) : ∃ z ∈ spV ls, ∃ y ∈ fitV ls (sight (lt ls z.1) z.2 (watV ls - 1)), (partV (lt ls z.1) z.2 (lt ls y.1) y.2).isSome = true := by
  obtain ⟨_, h2⟩ := wat_spec ls (spV ls) (spV ls).length (Nat.le_refl _)
  rcases h2 with h | ⟨i, j, z, y, _, _, hz, hy, h⟩
  · exact absurd h h0
  · have h : part2 ls z y = some (watV ls) := h
    refine ⟨z, List.mem_of_getElem? hz, y, mem_fitV.mpr ⟨sp_at hy, ?_⟩, by rw [show partV (lt ls z.1) z.2 (lt ls y.1) y.2 = some (watV ls) from h]; rfl⟩
    obtain ⟨k, e, _, _, h3⟩ := partV_some h
    rw [sight_len, e]
    exact (sight_diff.mpr fun j hj => h3 j (by omega)).symm
/-! the twins -/
def twI (ls : List (List Nat)) (one n : Nat) : List (List Int) := (List.range n).flatMap fun (i : Nat) => match turnV (lt ls one) (lt ls (one + 1 + i)) with
  | none => []
  | some m => [[(one : Int), (((one + 1 + i : Nat)) : Int), (m : Int)]]
def twN (ls : List (List Nat)) (n : Nat) : List (List Int) := (List.range n).flatMap fun one => twI ls one (ls.length - (one + 1))
abbrev twV (ls : List (List Nat)) : List (List Int) := twN ls ls.length
theorem twI_succ (ls : List (List Nat)) (one n : Nat) : twI ls one (n + 1) = twI ls one n ++ (match turnV (lt ls one) (lt ls (one + 1 + n)) with
  | none => []
  | some m => [[(one : Int), (((one + 1 + n : Nat)) : Int), (m : Int)]]) := by
  unfold twI
  rw [List.range_succ, List.flatMap_append, List.flatMap_cons, List.flatMap_nil, List.append_nil]
theorem twN_succ (ls : List (List Nat)) (n : Nat) : twN ls (n + 1) = twN ls n ++ twI ls n (ls.length - (n + 1)) := by
  unfold twN
  rw [List.range_succ, List.flatMap_append, List.flatMap_cons, List.flatMap_nil, List.append_nil]
theorem twI_len (ls : List (List Nat)) (one : Nat) : ∀ n, (twI ls one n).length ≤ n
  | 0 => by simp [twI]
  | n + 1 => by
    have := twI_len ls one n
    rw [twI_succ, List.length_append]
    split
    · rw [List.length_nil]; omega
    · rw [List.length_singleton]; omega
theorem twN_len (ls : List (List Nat)) : ∀ n, (twN ls n).length ≤ n * ls.length
  | 0 => by simp [twN]
  | n + 1 => by
    have h1 := twN_len ls n
    have h2 := twI_len ls n (ls.length - (n + 1))
    rw [twN_succ, List.length_append, Nat.succ_mul]
    omega
/-! what comes next -/
theorem sight_snoc_iff {l : List Nat} {m : Int} {s : List Nat} {c : Nat} : sight l m (s ++ [c]).length = s ++ [c] ↔ sight l m s.length = s ∧ sg l (m + (s.length : Int)) = c := by
  rw [List.length_append, List.length_singleton, sight_succ]
  constructor
  · intro h
    obtain ⟨h1, h2⟩ := List.append_inj h (by rw [sight_len])
    exact ⟨h1, by simpa using h2⟩
  · rintro ⟨h1, h2⟩
    rw [h1, h2]
theorem fit_snoc (ls : List (List Nat)) (s : List Nat) (c : Nat) : fitV ls (s ++ [c]) = (fitV ls s).filter fun z => decide (sg (lt ls z.1) ((z.2 : Int) + (s.length : Int)) = c) := by
  unfold fitV
  rw [List.filter_filter]
  refine List.filter_congr fun z _ => ?_
  unfold fitP
  rw [Bool.eq_iff_iff, Bool.and_eq_true, decide_eq_true_eq, decide_eq_true_eq, decide_eq_true_eq, sight_snoc_iff]
  exact ⟨fun h => ⟨h.2, h.1⟩, fun h => ⟨h.2, h.1⟩⟩
theorem sg_sign {l : List Nat} (h : Good l) (m : Int) : sg l m = 111 ∨ sg l m = 46 := by
  have := h.2.2 _ (sg_mem h.1 m)
  unfold isSign at this
  rw [Bool.or_eq_true] at this
  rcases this with z | z
  · exact .inl (eq_of_beq z)
  · exact .inr (eq_of_beq z)
theorem two_len {α : Type} (p q : α → Bool) : ∀ (l : List α), (∀ x ∈ l, q x = !p x) → (l.filter p).length + (l.filter q).length = l.length
  | [], _ => rfl
  | x :: l, h => by
    have ih := two_len p q l fun y hy => h y (List.mem_cons_of_mem _ hy)
    have hx := h x (List.mem_cons_self ..)
    cases e : p x
    · rw [e] at hx
      rw [List.filter_cons_of_neg (by rw [e]; exact Bool.false_ne_true), List.filter_cons_of_pos (by rw [hx]; rfl), List.length_cons, List.length_cons]
      omega
    · rw [e] at hx
      rw [List.filter_cons_of_pos e, List.filter_cons_of_neg (by rw [hx]; exact Bool.false_ne_true), List.length_cons, List.length_cons]
      omega
theorem fit_total {ls : List (List Nat)} (hb : Book ls) (s : List Nat) : (fitV ls (s ++ [111])).length + (fitV ls (s ++ [46])).length = (fitV ls s).length := by
  rw [fit_snoc, fit_snoc]
  refine two_len _ _ _ fun z hz => ?_
  have g := lt_good hb (mem_fitV.mp hz).1.1
  rcases sg_sign g ((z.2 : Int) + (s.length : Int)) with e | e
  · rw [e]; rfl
  · rw [e]; rfl
theorem fit_less {ls : List (List Nat)} {s : List Nat} {c : Nat} {z : Nat × Nat} (h : z ∈ fitV ls (s ++ [c])) : z ∈ fitV ls s := by
  rw [fit_snoc] at h
  exact (List.mem_filter.mp h).1
/-- the numbers go up -/
theorem sp_sorted (ls : List (List Nat)) (n : Nat) : (spN ls n).Pairwise fun a b => a.1 ≤ b.1 := by
  unfold spN
  rw [List.pairwise_flatMap]
  refine ⟨fun i _ => ?_, ?_⟩
  · rw [List.pairwise_map]
    exact List.Pairwise.imp (R := fun _ _ => True) (fun _ => Nat.le_refl _) (List.pairwise_of_forall fun _ _ => trivial)
  · refine List.pairwise_lt_range.imp fun {a b} hab x hx y hy => ?_
    obtain ⟨_, _, e1⟩ := List.mem_map.mp hx
    obtain ⟨_, _, e2⟩ := List.mem_map.mp hy
    rw [← e1, ← e2]
    exact Nat.le_of_lt hab
theorem fit_sorted (ls : List (List Nat)) (s : List Nat) : (fitV ls s).Pairwise fun a b => a.1 ≤ b.1 := (sp_sorted ls ls.length).sublist List.filter_sublist
def sureV (ls : List (List Nat)) (s : List Nat) : Option Nat := match fitV ls s with
  | [] => none
  | z :: zs => if z.1 = ((z :: zs).getLast (List.cons_ne_nil _ _)).1 then some z.1 else none
theorem sureV_some {ls : List (List Nat)} {s : List Nat} {n : Nat} (h : sureV ls s = some n) : fitV ls s ≠ [] ∧ ∀ z ∈ fitV ls s, z.1 = n := by
  have hs := fit_sorted ls s
  unfold sureV at h
  split at h
  · cases h
  · rename_i z zs e
    by_cases he : z.1 = ((z :: zs).getLast (List.cons_ne_nil _ _)).1
    · rw [if_pos he] at h
      have := Option.some.inj h
      subst this
      rw [e] at hs ⊢
      refine ⟨List.cons_ne_nil _ _, fun y hy => ?_⟩
      obtain ⟨hs1, hs2⟩ := List.pairwise_cons.mp hs
      refine Nat.le_antisymm ?_ ?_
      · rw [he]
        obtain ⟨i, hi⟩ := List.getElem?_of_mem hy
        obtain ⟨hi1, hi2⟩ := List.getElem?_eq_some_iff.mp hi
        rw [List.getLast_eq_getElem]
        by_cases el : i = (z :: zs).length - 1
        · subst el
          rw [hi2]
          exact Nat.le_refl _
        · have := (List.pairwise_iff_getElem.mp hs) i ((z :: zs).length - 1) hi1 (by omega) (by omega)
          rw [hi2] at this
          exact this
      · rcases List.mem_cons.mp hy with rfl | q
        · exact Nat.le_refl _
        · exact hs1 y q
    · rw [if_neg he] at h
      cases h
theorem sureV_of {ls : List (List Nat)} {s : List Nat} {n : Nat} (h0 : fitV ls s ≠ []) (h : ∀ z ∈ fitV ls s, z.1 = n) : sureV ls s = some n := by
  unfold sureV
  split
  · rename_i e
    exact absurd e h0
  · rename_i z zs e
    have h1 := h z (by rw [e]; exact List.mem_cons_self ..)
    have h2 := h ((z :: zs).getLast (List.cons_ne_nil _ _)) (by rw [e]; exact List.getLast_mem _)
    rw [if_pos (h1.trans h2.symm), h1]
def comeV (ls : List (List Nat)) (s : List Nat) : List Nat := [46, 111].filter fun c => decide (∃ z ∈ fitV ls s, sg (lt ls z.1) ((z.2 : Int) + (s.length : Int)) = c)
theorem mem_comeV {ls : List (List Nat)} {s : List Nat} {c : Nat} (hc : c = 111 ∨ c = 46) : c ∈ comeV ls s ↔ fitV ls (s ++ [c]) ≠ [] := by
  unfold comeV
  rw [List.mem_filter, decide_eq_true_eq, fit_snoc]
  constructor
  · rintro ⟨_, z, h1, h2⟩ h
    have : z ∈ ([] : List (Nat × Nat)) := by
      rw [← h]
      exact List.mem_filter.mpr ⟨h1, decide_eq_true h2⟩
    cases this
  · intro h
    refine ⟨by rcases hc with rfl | rfl <;> decide, ?_⟩
    obtain ⟨z, hz⟩ := List.exists_mem_of_ne_nil _ h
    obtain ⟨h1, h2⟩ := List.mem_filter.mp hz
    exact ⟨z, h1, of_decide_eq_true h2⟩
theorem sure_more {ls : List (List Nat)} {s : List Nat} {c n : Nat} (h : sureV ls s = some n) (h0 : fitV ls (s ++ [c]) ≠ []) : sureV ls (s ++ [c]) = some n :=
  sureV_of h0 fun z hz => (sureV_some h).2 z (fit_less hz)
/-- a light fits its own sight -/
theorem fit_own {ls : List (List Nat)} (hb : Book ls) {i : Nat} (hi : i < ls.length) (m : Int) (n : Nat) : fitV ls (sight (lt ls i) m n) ≠ [] := by
  have gi := lt_good hb hi
  obtain ⟨m1, _, m3, _⟩ := measure_spec gi.1
  have h4 : m % (measure (lt ls i) : Int) < measure (lt ls i) := Int.emod_lt_of_pos _ (by omega)
  have h5 : 0 ≤ m % (measure (lt ls i) : Int) := Int.emod_nonneg _ (by omega)
  intro h
  have : (i, (m % (measure (lt ls i) : Int)).toNat) ∈ fitV ls (sight (lt ls i) m n) := by
    refine mem_fitV.mpr ⟨⟨hi, by show (m % (measure (lt ls i) : Int)).toNat < measure (lt ls i); omega⟩, ?_⟩
    rw [sight_len, sight_ext]
    intro k _
    show sg (lt ls i) (((m % (measure (lt ls i) : Int)).toNat : Int) + k) = _
    rw [Int.toNat_of_nonneg h5]
    have e : m % (measure (lt ls i) : Int) + k = (m + k) + (-(m / (measure (lt ls i) : Int))) * (measure (lt ls i) : Int) := by
      have := Int.emod_add_mul_ediv m (measure (lt ls i) : Int)
      rw [Int.neg_mul, Int.mul_comm]
      omega
    rw [e, FPer.mulI (f := sg (lt ls i)) m3]
  rw [h] at this
  cases this
end Lw

set_option linter.all false
set_option maxHeartbeats 4000000
/-! Lampwatch: two lights seen as one, in plain Lean. -/
namespace Lw
def uni (a b : List Nat) (m : Int) : Nat := if sg a m = 111 ∨ sg b m = 111 then 111 else 46
def rowV (a b : List Nat) (n : Nat) : List Nat := (List.range n).map fun k : Nat => uni a b (k : Int)
theorem uni_comm (a b : List Nat) : uni a b = uni b a := by
  funext m
  unfold uni
  by_cases h : sg a m = 111 ∨ sg b m = 111
  · rw [if_pos h, if_pos h.symm]
  · rw [if_neg h, if_neg fun z => h z.symm]
theorem rowV_comm (a b : List Nat) (n : Nat) : rowV a b n = rowV b a n := by
  unfold rowV
  rw [uni_comm]
theorem rowV_len (a b : List Nat) (n : Nat) : (rowV a b n).length = n := by simp [rowV]
theorem rowV_succ (a b : List Nat) (n : Nat) : rowV a b (n + 1) = rowV a b n ++ [uni a b (n : Int)] := by simp [rowV, List.range_succ]
theorem rowV_take (a b : List Nat) {n m : Nat} (h : n ≤ m) : (rowV a b m).take n = rowV a b n := by
  unfold rowV
  rw [← List.map_take, List.take_range, Nat.min_eq_left h]
theorem rowV_get (a b : List Nat) {n k : Nat} (h : k < n) : (rowV a b n)[k]? = some (uni a b (k : Int)) := by
  unfold rowV
  rw [List.getElem?_map, List.getElem?_range h]
  rfl
theorem uni_per {a b : List Nat} {n : Nat} (ha : a.length ∣ n) (hb : b.length ∣ n) : FPer (uni a b) n := by
  obtain ⟨i, ei⟩ := ha
  obtain ⟨j, ej⟩ := hb
  intro m
  have h1 : sg a (m + (n : Int)) = sg a m := by
    have := (FPer.mul (f := sg a) (per_len a) i) m
    rw [Nat.mul_comm, ← ei] at this
    exact this
  have h2 : sg b (m + (n : Int)) = sg b m := by
    have := (FPer.mul (f := sg b) (per_len b) j) m
    rw [Nat.mul_comm, ← ej] at this
    exact this
  unfold uni
  rw [h1, h2]
theorem sg_row {a b : List Nat} {n : Nat} (hn : 1 ≤ n) (ha : a.length ∣ n) (hb : b.length ∣ n) (m : Int) : sg (rowV a b n) m = uni a b m := by
  unfold sg
  rw [rowV_len]
  have h1 : 0 ≤ m % (n : Int) := Int.emod_nonneg _ (by omega)
  have h2 : m % (n : Int) < n := Int.emod_lt_of_pos _ (by omega)
  rw [List.getD_eq_getElem?_getD, rowV_get a b (show (m % (n : Int)).toNat < n by omega)]
  show uni a b (((m % (n : Int)).toNat : Nat) : Int) = uni a b m
  rw [Int.toNat_of_nonneg h1]
  exact (uni_per ha hb).mod m
theorem per_row {a b : List Nat} {n : Nat} (hn : 1 ≤ n) (ha : a.length ∣ n) (hb : b.length ∣ n) (d : Nat) : Per (rowV a b n) d ↔ FPer (uni a b) d := by
  constructor
  · intro h m
    have := h m
    rw [sg_row hn ha hb, sg_row hn ha hb] at this
    exact this
  · intro h m
    rw [sg_row hn ha hb, sg_row hn ha hb]
    exact h m
def bothL (a b : List Nat) : Nat := measure (rowV a b (a.length * b.length))
theorem bothL_of {a b : List Nat} (ha : 1 ≤ a.length) (hb : 1 ≤ b.length) {n : Nat} (hn : 1 ≤ n) (h1 : a.length ∣ n) (h2 : b.length ∣ n) : measure (rowV a b n) = bothL a b := by
  have h0 : 1 ≤ a.length * b.length := Nat.mul_pos ha hb
  refine measure_congr (by rw [rowV_len]; exact hn) (by rw [rowV_len]; exact h0) fun d => ?_
  rw [per_row hn h1 h2, per_row h0 (Nat.dvd_mul_right _ _) (Nat.dvd_mul_left _ _)]
theorem short_row {a b : List Nat} (ha : 1 ≤ a.length) (hb : 1 ≤ b.length) {n : Nat} (hn : 1 ≤ n) (h1 : a.length ∣ n) (h2 : b.length ∣ n) : shortest (rowV a b n) = rowV a b (bothL a b) := by
  have e := bothL_of ha hb hn h1 h2
  have hle := measure_le (l := rowV a b n) (by rw [rowV_len]; exact hn)
  rw [rowV_len, e] at hle
  unfold shortest
  rw [e, rowV_take a b hle]
theorem bothL_comm {a b : List Nat} (ha : 1 ≤ a.length) (hb : 1 ≤ b.length) : bothL a b = bothL b a := by
  unfold bothL
  rw [rowV_comm, Nat.mul_comm]
theorem bothL_spec {a b : List Nat} (ha : 1 ≤ a.length) (hb : 1 ≤ b.length) : 1 ≤ bothL a b ∧ FPer (uni a b) (bothL a b) ∧ ∀ d, 1 ≤ d → FPer (uni a b) d → bothL a b ≤ d := by
  have h0 : 1 ≤ a.length * b.length := Nat.mul_pos ha hb
  obtain ⟨m1, _, m3, m4⟩ := measure_spec (l := rowV a b (a.length * b.length)) (by rw [rowV_len]; exact h0)
  have pr := per_row h0 (Nat.dvd_mul_right a.length b.length) (Nat.dvd_mul_left b.length a.length)
  refine ⟨m1, (pr _).mp m3, fun d hd h => ?_⟩
  exact Nat.le_of_dvd hd (m4 d hd ((pr d).mpr h))
/-- no sign of the 144 differs from the one d behind it -/
def winB (a b : List Nat) (d : Nat) : Bool := (List.range (144 - d)).all fun k : Nat => decide (uni a b (k : Int) = uni a b ((k + d : Nat) : Int))
theorem win_iff {a b : List Nat} (ga : Good a) (gb : Good b) {d : Nat} (hd : d ≤ 12) : winB a b d = true ↔ FPer (uni a b) d := by
  unfold winB
  rw [List.all_eq_true]
  constructor
  · intro h
    have hw : ∀ k : Nat, k < 132 → uni a b (k : Int) = uni a b ((k : Int) + (d : Int)) := fun k hk => by
      have := of_decide_eq_true (h k (List.mem_range.mpr (by omega)))
      rw [Int.natCast_add] at this
      exact this
    obtain ⟨D, hD1, hD2, hD3⟩ : ∃ D : Nat, 1 ≤ D ∧ D ≤ 132 ∧ FPer (uni a b) D := by
      have a1 := ga.1; have a2 := ga.2.1; have b1 := gb.1; have b2 := gb.2.1
      by_cases e : a.length = b.length
      · exact ⟨a.length, a1, by omega, uni_per (Nat.dvd_refl _) (by rw [e]; exact Nat.dvd_refl _)⟩
      · refine ⟨a.length * b.length, Nat.mul_pos a1 b1, ?_, uni_per (Nat.dvd_mul_right _ _) (Nat.dvd_mul_left _ _)⟩
        rcases Nat.lt_or_ge a.length 12 with q | q
        · exact Nat.le_trans (Nat.mul_le_mul (show a.length ≤ 11 by omega) b2) (by decide)
        · exact Nat.le_trans (Nat.mul_le_mul a2 (show b.length ≤ 11 by omega)) (by decide)
    intro m
    have hs : FPer (fun x => uni a b (x + (d : Int))) D := fun x => by
      show uni a b (x + (D : Int) + (d : Int)) = uni a b (x + (d : Int))
      rw [show x + (D : Int) + (d : Int) = x + (d : Int) + (D : Int) by omega]
      exact hD3 _
    exact (FPer.agree (f := uni a b) (g := fun x => uni a b (x + (d : Int))) hD1 hD3 hs (fun k hk => hw k (by omega)) m).symm
  · intro h k _
    refine decide_eq_true ?_
    rw [Int.natCast_add]
    exact (h _).symm
def refL : List Nat := [114, 101, 102, 117, 115, 101, 100, 32, 108, 111, 110, 103]
/-- what the law looks for -/
def dueV (a b : List Nat) : Option Nat → List Nat
  | none => refL
  | some j => (rowV a b 144).take (j + 1)
def triedV (a b : List Nat) : List Nat := if bothL a b ≤ 12 then rowV a b (bothL a b) else refL
theorem due_tried {a b : List Nat} (ga : Good a) (gb : Good b) : dueV a b (findN 12 fun j => winB a b (j + 1)) = triedV a b := by
  obtain ⟨h1, h2, h3⟩ := bothL_spec ga.1 gb.1
  unfold triedV
  by_cases hle : bothL a b ≤ 12
  · rw [if_pos hle]
    have : findN 12 (fun j => winB a b (j + 1)) = some (bothL a b - 1) := by
      rw [findN_some]
      refine ⟨by omega, (win_iff ga gb (by omega)).mpr (by rw [Nat.sub_add_cancel h1]; exact h2), fun j hj => ?_⟩
      refine Bool.eq_false_iff.mpr fun z => ?_
      have := h3 (j + 1) (by omega) ((win_iff ga gb (by omega)).mp z)
      omega
    rw [this]
    show (rowV a b 144).take (bothL a b - 1 + 1) = _
    rw [Nat.sub_add_cancel h1, rowV_take a b (by omega)]
  · rw [if_neg hle]
    have : findN 12 (fun j => winB a b (j + 1)) = none := by
      rw [findN_none]
      intro j hj
      refine Bool.eq_false_iff.mpr fun z => ?_
      have := h3 (j + 1) (by omega) ((win_iff ga gb (by omega)).mp z)
      omega
    rw [this]
    rfl
theorem tried_comm {a b : List Nat} (ga : Good a) (gb : Good b) : triedV b a = triedV a b := by
  unfold triedV
  rw [bothL_comm gb.1 ga.1, rowV_comm b a]
end Lw

set_option Elab.async false
set_option linter.all false
set_option maxRecDepth 100000
set_option maxHeartbeats 4000000
/-! Lampwatch, own prelude: texts as lists of codes, rules in that form, loops and comprehensions. -/
namespace Lw
open PySem PySem.Spec PyProof.Rows L2 TL
abbrev S (l : List Nat) : Str := ⟨l.toArray⟩
theorem S_len (l : List Nat) : (S l).length = l.length := by simp [Str.length]
theorem S_tl (x : Str) : x = S (tl x) := (mk_tl x).symm
theorem S_inj {a b : List Nat} (h : S a = S b) : a = b := by
  have := congrArg tl h
  exact this
theorem S_app (a b : List Nat) : S a ++ S b = S (a ++ b) := by
  refine ext_tl ?_
  rw [tl_append]
theorem S_dec (a b : List Nat) : decide (V.str (S a) = V.str (S b)) = decide (a = b) := by
  by_cases h : a = b
  · subst h; simp
  · have h2 : ¬ V.str (S a) = V.str (S b) := fun e => h (S_inj (V.str.inj e))
    rw [decide_eq_false h, decide_eq_false h2]
theorem line_of {n : Nat} (h : n ≤ 100000) : n ≤ sizeLine := Nat.le_trans h (by decide)
theorem line_lt {n : Nat} (h : n ≤ 100000) : n < sizeLine := Nat.lt_of_le_of_lt h (by decide)
def cutL (l : List Nat) (lo hi : Option Int) : List Nat := (l.drop (HT.sIx l.length 0 lo)).take (HT.sIx l.length l.length hi - HT.sIx l.length 0 lo)
abbrev tx (ls : List (List Nat)) : List V := ls.map fun l => V.str (S l)
theorem opImp {X : Cx} {f : Value → Value → Sem Value} {r r' : R2} (h : OpR X f r) (k : ∀ x y H Q, r' x y H Q → r x y H Q) : OpR X f r' :=
  fun pins s σ H x y v u Q I rx ry q => h pins s σ H x y v u Q I rx ry (k _ _ _ _ q)
theorem crImp {X : Cx} {f : Value} {r r' : List V → Hp → VK → Prop} (h : CallR X f r) (k : ∀ xs H Q, r' xs H Q → r xs H Q) : CallR X f r' :=
  fun pins s σ H xs us Q I rs q => h pins s σ H xs us Q I rs (k _ _ _ q)
theorem ixImp {X : Cx} {r r' : R2} (h : IxR X r) (k : ∀ x y H Q, r' x y H Q → r x y H Q) : IxR X r' :=
  fun va sl pins s σ H x y v u Q I rx ry q hs => h va sl pins s σ H x y v u Q I rx ry (k _ _ _ _ q) hs
theorem slImp {X : Cx} {r r' : V → Option Int → Option Int → Hp → VK → Prop} (h : SlR X r) (k : ∀ x lo hi H Q, r' x lo hi H Q → r x lo hi H Q) : SlR X r' :=
  fun pins s σ H x v vl vu lo hi sl Q I rx hs pl pu q => h pins s σ H x v vl vu lo hi sl Q I rx hs pl pu (k _ _ _ _ _ q)
section
variable {X : Cx}
theorem pe_S {l : List Nat} {x : Str} {j : Nat} {pos : Pos} (h : x = S l) : PE X (.Constant (.str x) j pos) (tC (.str (S l))) := by
  subst h
  exact pe_str
def rAddS : R2 := fun x y H Q => ∃ a b, x = .str (S a) ∧ y = .str (S b) ∧ a.length + b.length ≤ 100000 ∧ Q (.str (S (a ++ b))) H
theorem op_addS : OpR X (binaryOp .Add) rAddS := opImp op_add_str fun x y H Q ⟨a, b, e1, e2, hz, q⟩ =>
  ⟨S a, S b, e1, e2, by rw [S_len, S_len]; exact line_of hz, by rw [S_app]; exact q⟩
theorem fold_rep (xs : Array Nat) : ∀ (n : Nat) (acc : Array Nat), ((List.replicate n xs).foldl (· ++ ·) acc).toList = acc.toList ++ (List.replicate n xs.toList).flatten
  | 0, acc => by simp
  | n + 1, acc => by
    rw [List.replicate_succ, List.foldl_cons, fold_rep xs n]
    simp [List.replicate_succ]
def rMulS : R2 := fun x y H Q => ∃ a i, x = .str (S a) ∧ y = .int i ∧ 0 ≤ i ∧ i ≤ 100000 ∧ a.length * i.toNat ≤ 100000 ∧ Q (.str (S (rep i.toNat a))) H
theorem mul_eq (a : List Nat) (i : Int) (h0 : 0 ≤ i) : Txt.mul (S a) i = S (rep i.toNat a) := by
  refine ext_tl ?_
  unfold Txt.mul
  by_cases h1 : i < 1
  · rw [if_pos h1]
    have : i.toNat = 0 := by omega
    rw [this]
    rfl
  · rw [if_neg h1]
    by_cases h2 : (i == 1 || (S a).length == 0) = true
    · rw [if_pos h2]
      show a = rep i.toNat a
      rw [Bool.or_eq_true] at h2
      rcases h2 with h2 | h2
      · have e : i = 1 := by simpa using h2
        subst e
        simp [rep]
      · have e : a = [] := by
          have h3 : (S a).length = 0 := by simpa using h2
          rw [S_len] at h3
          exact List.eq_nil_of_length_eq_zero h3
        subst e
        simp [rep]
    · rw [if_neg h2]
      show ((List.replicate i.toNat (S a).cps).foldl (· ++ ·) #[]).toList = rep i.toNat a
      rw [fold_rep]
      simp [rep]
theorem op_mulS : OpR X (binaryOp .Mult) rMulS := by
  intro pins s σ H x y v u Q I rx ry h
  obtain ⟨a, i, rfl, rfl, h0, h1, hz, q⟩ := h
  obtain ⟨t, rfl⟩ := rx
  obtain ⟨t', rfl⟩ := ry
  refine PySem.SB.mul ⟨?_, fun hn hc => ?_, fun hn hc => ?_⟩ fun t' k => ?_
  · have e1 : decide (i < -(2 ^ 63 : Int)) = false := decide_eq_false (by omega)
    have e2 : decide (i ≥ 2 ^ 63) = false := decide_eq_false (by omega)
    rw [e1, e2]
    rfl
  · rw [S_len]
    have hi : 0 < i := by omega
    intro hgt
    have hm : (a.length : Int) * i ≤ 100000 := by
      have e : ((a.length * i.toNat : Nat) : Int) = (a.length : Int) * i := by
        rw [Int.natCast_mul, Int.toNat_of_nonneg h0]
      omega
    have h3 : (2 ^ 63 - 1) / i + 1 ≤ (a.length : Int) := by omega
    have h4 : (2 ^ 63 - 1 : Int) < ((2 ^ 63 - 1) / i + 1) * i := Int.lt_mul_of_ediv_lt hi (by omega)
    have h5 : ((2 ^ 63 - 1) / i + 1) * i ≤ (a.length : Int) * i := Int.mul_le_mul_of_nonneg_right h3 h0
    omega
  · rw [S_len]
    exact decide_eq_false (Nat.not_lt.mpr (line_of hz))
  · refine ⟨.str (Txt.mul (S a) i), H, I.tok _, ⟨_, rfl⟩, ?_⟩
    rw [mul_eq a i h0]
    exact q
def rEqS : R2 := fun x y H Q => ∃ a b, x = .str (S a) ∧ y = .str (S b) ∧ Q (.bl (decide (a = b))) H
def rNeS : R2 := fun x y H Q => ∃ a b, x = .str (S a) ∧ y = .str (S b) ∧ Q (.bl (!decide (a = b))) H
theorem op_eqS : OpR X (compareOp .Eq) rEqS := opImp op_eq fun x y H Q ⟨a, b, e1, e2, q⟩ => by
  subst e1 e2
  exact ⟨rfl, by rw [S_dec]; exact q⟩
theorem op_neS : OpR X (compareOp .NotEq) rNeS := opImp op_ne fun x y H Q ⟨a, b, e1, e2, q⟩ => by
  subst e1 e2
  exact ⟨rfl, by rw [S_dec]; exact q⟩
theorem int_dec (a b : Int) : decide (V.int a = V.int b) = decide (a = b) := by
  by_cases h : a = b
  · subst h; simp
  · have h2 : ¬ V.int a = V.int b := fun e => h (V.int.inj e)
    rw [decide_eq_false h, decide_eq_false h2]
def rEqI : R2 := fun x y H Q => ∃ a b, x = .int a ∧ y = .int b ∧ Q (.bl (decide (a = b))) H
def rNeI : R2 := fun x y H Q => ∃ a b, x = .int a ∧ y = .int b ∧ Q (.bl (!decide (a = b))) H
theorem op_eqI : OpR X (compareOp .Eq) rEqI := opImp op_eq fun x y H Q ⟨a, b, e1, e2, q⟩ => by
  subst e1 e2
  exact ⟨rfl, by rw [int_dec]; exact q⟩
theorem op_neI : OpR X (compareOp .NotEq) rNeI := opImp op_ne fun x y H Q ⟨a, b, e1, e2, q⟩ => by
  subst e1 e2
  exact ⟨rfl, by rw [int_dec]; exact q⟩
theorem bl_dec (a b : Bool) : decide (V.bl a = V.bl b) = (a == b) := by cases a <;> cases b <;> decide
def rEqB : R2 := fun x y H Q => ∃ a b, x = .bl a ∧ y = .bl b ∧ Q (.bl (a == b)) H
def rNeB : R2 := fun x y H Q => ∃ a b, x = .bl a ∧ y = .bl b ∧ Q (.bl (!(a == b))) H
theorem op_eqB : OpR X (compareOp .Eq) rEqB := opImp op_eq fun x y H Q ⟨a, b, e1, e2, q⟩ => by
  subst e1 e2
  exact ⟨rfl, by rw [bl_dec]; exact q⟩
theorem op_neB : OpR X (compareOp .NotEq) rNeB := opImp op_ne fun x y H Q ⟨a, b, e1, e2, q⟩ => by
  subst e1 e2
  exact ⟨rfl, by rw [bl_dec]; exact q⟩
def rIxSS : R2 := fun x y H Q => ∃ l i c, x = .str (S l) ∧ y = .int i ∧ l.length ≤ 100000 ∧ atI l i = some c ∧ Q (.str (S [c])) H
theorem ix_S : IxR X rIxSS := ixImp ix_str fun x y H Q ⟨l, i, c, e1, e2, hz, ha, q⟩ => ⟨S l, i, c, e1, e2, by rw [S_len]; exact line_of hz, ha, q⟩
def rSlSS : V → Option Int → Option Int → Hp → VK → Prop := fun x lo hi H Q => ∃ l, x = .str (S l) ∧ l.length ≤ 100000 ∧ Q (.str (S (cutL l lo hi))) H
theorem cut_eq (l : List Nat) (lo hi : Option Int) : cutS (S l) lo hi = S (cutL l lo hi) := by
  refine ext_tl ?_
  show ((S l).cps.toList.drop (HT.sIx (S l).length 0 lo)).take (HT.sIx (S l).length (S l).length hi - HT.sIx (S l).length 0 lo) = cutL l lo hi
  rw [S_len]
  rfl
theorem sl_S : SlR X rSlSS := slImp sl_str fun x lo hi H Q ⟨l, e, hz, q⟩ => ⟨S l, e, by rw [S_len]; exact line_of hz, by rw [cut_eq]; exact q⟩
def rLenS : List V → Hp → VK → Prop := fun xs H Q => ∃ l, xs = [.str (S l)] ∧ l.length ≤ 100000 ∧ Q (.int l.length) H
theorem call_lenS : CallR X (.builtin "len") rLenS := crImp call_len_str fun xs H Q ⟨l, e, hz, q⟩ => ⟨S l, e, by rw [S_len]; exact line_of hz, by rw [S_len]; exact q⟩
def rLenL (K : PySem.W.Frag) : List V → Hp → VK → Prop := fun xs H Q => ∃ p ys, xs = [.ref p] ∧ SqL K H p ys ∧ Q (.int ys.length) H
theorem call_lenL : CallR X (.builtin "len") (rLenL X.K) := crImp call_len_seq fun xs H Q ⟨p, ys, e, h, q⟩ => ⟨p, ys, e, .inl h, q⟩
def rLenT (K : PySem.W.Frag) : List V → Hp → VK → Prop := fun xs H Q => ∃ p ys, xs = [.ref p] ∧ SqT K H p ys ∧ Q (.int ys.length) H
theorem call_lenT : CallR X (.builtin "len") (rLenT X.K) := crImp call_len_seq fun xs H Q ⟨p, ys, e, h, q⟩ => ⟨p, ys, e, .inr h, q⟩
def rInS : R2 := fun x y H Q => ∃ c l, x = .str (S [c]) ∧ y = .str (S l) ∧ Q (.bl (decide (c ∈ l))) H
def rNotInS : R2 := fun x y H Q => ∃ c l, x = .str (S [c]) ∧ y = .str (S l) ∧ Q (.bl (!decide (c ∈ l))) H
theorem op_inS : OpR X (compareOp .In) rInS := opImp op_in_sign fun x y H Q ⟨c, l, e1, e2, q⟩ => ⟨c, S l, e1, e2, q⟩
theorem op_notInS : OpR X (compareOp .NotIn) rNotInS := opImp op_notIn_sign fun x y H Q ⟨c, l, e1, e2, q⟩ => ⟨c, S l, e1, e2, q⟩
/-- a text in a list of texts -/
def rInL (K : PySem.W.Frag) : R2 := fun x y H Q => ∃ a p ls, x = .str (S a) ∧ y = .ref p ∧ SqL K H p (tx ls) ∧ Q (.bl (decide (a ∈ ls))) H
theorem inV_tx (a : List Nat) : ∀ ls : List (List Nat), inV (.str (S a)) (tx ls) = decide (a ∈ ls)
  | [] => rfl
  | l :: ls => by
    show ((S l == S a) || inV (.str (S a)) (tx ls)) = _
    rw [inV_tx a ls, Bool.eq_iff_iff]
    simp only [Bool.or_eq_true, decide_eq_true_eq, List.mem_cons, beq_iff_eq]
    constructor
    · rintro (h | h)
      · exact .inl (S_inj h).symm
      · exact .inr h
    · rintro (h | h)
      · exact .inl (by rw [h])
      · exact .inr h
theorem flat_tx : ∀ ls : List (List Nat), (tx ls).all flatV = true
  | [] => rfl
  | _ :: ls => flat_tx ls
theorem op_inL : OpR X (compareOp .In) (rInL X.K) := opImp op_in_seq fun x y H Q ⟨a, p, ls, e1, e2, h, q⟩ => by
  subst e1 e2
  refine ⟨p, tx ls, rfl, .inl h, rfl, flat_tx ls, ?_⟩
  show Q (.bl (inV (.str (S a)) (tx ls))) H
  rw [inV_tx]
  exact q
/-- sep.join(texts) -/
def rJoinS (K : PySem.W.Frag) : V → List V → Hp → VK → Prop := fun x xs H Q => ∃ sep p ls, x = .str (S sep) ∧ xs = [.ref p] ∧ SqL K H p (tx ls) ∧ (ls.map List.length).sum + ls.length * sep.length ≤ 100000 ∧ Q (.str (S (joinL sep ls))) H
theorem tl_S (l : List Nat) : tl (S l) = l := rfl
theorem join_S (sep : List Nat) (ls : List (List Nat)) : Txt.join (S sep) (ls.map S) = S (joinL sep ls) := by
  refine ext_tl ?_
  rw [join_eq, tl_join, List.map_map]
  show joinL sep (ls.map (tl ∘ S)) = joinL sep ls
  rw [show (tl ∘ S : List Nat → List Nat) = id from rfl, List.map_id]
theorem mt_joinS : MtR X "str.join" (rJoinS X.K) := by
  intro pins s σ H x xs v us Q I rx rs h
  obtain ⟨sep, p, ls, e1, e2, h, hz, q⟩ := h
  refine mt_join pins s σ H x xs v us Q I rx rs ⟨S sep, p, ls.map S, e1, e2, .inl ?_, ?_, ?_⟩
  · rw [List.map_map]
    exact h
  · rw [List.map_map, List.length_map, S_len, show ((fun x : Str => x.length) ∘ S) = List.length from funext fun l => S_len l]
    exact Nat.le_trans hz (by decide)
  · rw [join_S]
    exact q
theorem joinL_nil : ∀ ls : List (List Nat), joinL [] ls = ls.flatten
  | [] => rfl
  | [p] => by simp [joinL]
  | p :: q :: r => by
    show p ++ ([] ++ joinL [] (q :: r)) = _
    rw [joinL_nil (q :: r), List.nil_append]
    rfl
theorem walkS {l : List Nat} : Walk (Its (S l)) l.length (fun _ => True) (fun i H v H' => H' = H ∧ ∃ c, l[i]? = some c ∧ v = .str (S [c])) := by
  refine ⟨fun i H hi _ => ?_, fun H _ => ?_, fun i H x H' _ _ y => ?_⟩
  · show i < l.toArray.size
    rw [List.size_toArray]
    exact hi
  · show l.toArray.size ≤ l.length
    rw [List.size_toArray]
    exact Nat.le_refl _
  · obtain ⟨e, c, h, hv⟩ := y
    refine ⟨e, c, ?_, hv⟩
    rw [← h]
    show l[i]? = l.toArray[i]?
    rw [List.getElem?_toArray]
theorem pe_joinS {o e : Expr} {to te : TE} {apos pos : Pos} (ho : PE X o to) (he : PE X e te) (hs : starEach [e] X.env = [(false, eval e X.env)] := by rfl) (hbase : attributeBase o "join" X.env (eval o X.env) = eval o X.env := by rfl) (hline : (apos.endLine == pos.line) = true := by rfl) :
    PE X (.Call (.Attribute o "join" apos) [e] [] pos) (tM1 (rJoinS X.K) to te) := pe_m1 F.slot_str_join F.type_str_join mt_joinS ho he hs hbase hline
end
theorem _root_.L2.Room.units65 {k : Nat} {A : Around} (r : Room k A) : A.units + 65 < cLine := by
  have := r.un
  omega
/-! ### heaps that grow -/
theorem same_upd {H : Hp} {p : Addr} {o : HO} (h : H p = none) : Same H (upd H p o) := fun b x e => by
  rw [upd_ne (ne_of_none e h)]
  exact e
/-- an object that H does not know may change -/
theorem Same_mut {H H' : Hp} {p : Addr} {o : HO} (e : Same H H') (h : H p = none) : Same H (upd H' p o) := fun a u ha => by
  rw [upd_ne (ne_of_none ha h)]
  exact e a u ha
theorem Same_sqT {K : PySem.W.Frag} {H H' : Hp} {a : Addr} {xs : List V} (e : Same H H') (h : SqT K H a xs) : SqT K H' a xs := by
  rcases h with (h | ⟨o, h⟩) | h
  · exact .inl (.inl (e _ _ h))
  · exact .inl (.inr ⟨o, e _ _ h⟩)
  · exact .inr h
mutual
theorem Dp_mono {K : PySem.W.Frag} {H H' : Hp} (e : Same H H') : ∀ {v : V} {d : PyData}, Dp K H v d → Dp K H' v d
  | _, _, .non => .non
  | _, _, .bl b => .bl b
  | _, _, .int i => .int i
  | _, _, .str x => .str x
  | _, _, .lst h ha => .lst (e.seq h) (DpAll_mono e ha)
  | _, _, .tup h ha => .tup (Same_sqT e h) (DpAll_mono e ha)
theorem DpAll_mono {K : PySem.W.Frag} {H H' : Hp} (e : Same H H') : ∀ {v : List V} {d : List PyData}, DpAll K H v d → DpAll K H' v d
  | _, _, .nil => .nil
  | _, _, .cons h t => .cons (Dp_mono e h) (DpAll_mono e t)
end
/-! ### comprehensions -/
def given (n : Nat) (f : Nat → Bool) (v : Nat → V) : List V := ((List.range n).filter f).map v
theorem given_yes {n : Nat} {f : Nat → Bool} {v : Nat → V} (h : f n = true) : given (n + 1) f v = given n f v ++ [v n] := by
  unfold given
  rw [List.range_succ, List.filter_append, List.map_append]
  simp [h]
theorem given_no {n : Nat} {f : Nat → Bool} {v : Nat → V} (h : f n = false) : given (n + 1) f v = given n f v := by
  unfold given
  rw [List.range_succ, List.filter_append, List.map_append]
  simp [h]
theorem given_len (n : Nat) (f : Nat → Bool) (v : Nat → V) : (given n f v).length ≤ n := by
  unfold given
  rw [List.length_map]
  exact Nat.le_trans (List.length_filter_le _ _) (by rw [List.length_range]; exact Nat.le_refl _)
theorem given_all (n : Nat) (v : Nat → V) : given n (fun _ => true) v = (List.range n).map v := by
  unfold given
  rw [List.filter_eq_self.mpr fun _ _ => rfl]
section
variable {J : It} {n : Nat} {G : Hp → Prop} {Y : Nat → Hp → V → Hp → Prop}
/-- a comprehension whose turns only add to the heap: f tells which turns give, v what -/
theorem lc_map (w : Walk J n G Y) {g : TG} {tt : TT} {te : TE} {vs : List Nat} {σ : L2.St} {H1 : Hp} {D : Addr} {Qd : Hp → Prop} (f : Nat → Bool) (v : Nat → V) (hn : n ≤ 100000) (hD : H1 D = none)
    (hG : ∀ H, Same H1 H → G H) (hY : ∀ i H x H', Y i H x H' → Same H H')
    (hs : ∀ i x H H', i < n → Same H1 H → Y i H x H' → ∀ (k : V → Hp → Prop) (k' : Hp → Prop), (f i = true → ∀ H4, Same H' H4 → k (v i) H4) → (f i = false → ∀ H4, Same H' H4 → k' H4) →
      g x (wipe σ vs) H' fun σ2 H2 => wipe σ2 vs = wipe σ vs ∧ tt σ2 H2 fun b H3 => if b = true then te σ2 H3 k else k' H3)
    (hd : ∀ H, Same H1 H → H D = some (.lst (given n f v)) → Qd H) :
    ∃ W : Nat → Nat → Hp → Prop, (∃ m, W 0 m (upd H1 D (.lst []))) ∧ ∀ i m H, W i m H →
      (J.stop i H ∧ Qd H) ∨ (J.go i H ∧ ∃ Nx : Hp → Prop, (∀ H', Nx H' → ∃ m', m' < m ∧ W (i + 1) m' H') ∧ ∀ x H', J.yld i H x H' → g x (wipe σ vs) H' fun σ2 H2 => wipe σ2 vs = wipe σ vs ∧ tt σ2 H2 fun b H3 =>
        if b = true then te σ2 H3 fun y H4 => ∃ acc, H4 D = some (.lst acc) ∧ acc.length < sizeLine ∧ Nx (upd H4 D (.lst (acc ++ [y]))) else Nx H3) := by
  refine lc_it w (fun i H => i ≤ n ∧ Same H1 H ∧ H D = some (.lst (given i f v))) ⟨Nat.zero_le _, same_upd hD, upd_same⟩ (fun i H _ p => hG H p.2.1) (fun i x H H' hi p y => ?_) (fun H p => hd H p.2.1 p.2.2)
  obtain ⟨_, s1, e⟩ := p
  have s2 := hY i H x H' y
  refine hs i x H H' hi s1 y _ _ (fun hf H4 s4 => ?_) (fun hf H4 s4 => ?_)
  · have e4 := s4 _ _ (s2 _ _ e)
    refine ⟨_, e4, line_lt (Nat.le_trans (given_len i f v) (by omega)), hi, Same_mut ((s1.trans s2).trans s4) hD, ?_⟩
    rw [upd_same, given_yes hf]
  · have e4 := s4 _ _ (s2 _ _ e)
    refine ⟨hi, (s1.trans s2).trans s4, ?_⟩
    rw [e4, given_no hf]
end
theorem atN {α : Type} {xs : List α} {z : Int} {j : Nat} {v : α} (e : z = (j : Int)) (h : xs[j]? = some v) : atI xs z = some v := by
  subst e
  exact atI_nat h
theorem atI_mod {l : List Nat} (h : 1 ≤ l.length) (m : Int) : atI l (m % (l.length : Int)) = some (sg l m) := by
  have h1 : 0 ≤ m % (l.length : Int) := Int.emod_nonneg _ (by omega)
  have h2 : m % (l.length : Int) < l.length := Int.emod_lt_of_pos _ (by omega)
  refine atN (j := (m % (l.length : Int)).toNat) (by omega) ?_
  unfold sg
  have h3 : (m % (l.length : Int)).toNat < l.length := by omega
  rw [List.getD_eq_getElem?_getD, List.getElem?_eq_getElem h3]
  rfl
theorem sum_ones {α : Type} (f : α → Nat) : ∀ xs : List α, ((xs.map fun x => [f x]).map List.length).sum = xs.length
  | [] => rfl
  | x :: xs => by
    show 1 + ((xs.map fun x => [f x]).map List.length).sum = xs.length + 1
    rw [sum_ones f xs, Nat.add_comm]
theorem flat_ones {α : Type} (f : α → Nat) : ∀ xs : List α, (xs.map fun x => [f x]).flatten = xs.map f
  | [] => rfl
  | x :: xs => by
    show f x :: (xs.map fun x => [f x]).flatten = f x :: xs.map f
    rw [flat_ones f xs]
/-- range(n), its turns as naturals -/
theorem walkR {n : Nat} : Walk (Itr 0 n) n (fun _ => True) (fun i H x H' => H' = H ∧ x = .int (i : Nat)) :=
  walk_range.mono (fun _ _ => trivial) fun i H x H' _ _ y => ⟨y.1, by rw [y.2]; show V.int (0 + (i : Nat)) = _; rw [Int.zero_add]⟩
theorem cutL_to (l : List Nat) (n : Nat) : cutL l none (some (n : Int)) = l.take n := by
  unfold cutL
  rw [HT.sIx_none, HT.sIx_nat, List.drop_zero, Nat.sub_zero]
  by_cases h : n ≤ l.length
  · rw [Nat.min_eq_left h]
  · rw [Nat.min_eq_right (by omega), List.take_of_length_le (Nat.le_refl _), List.take_of_length_le (by omega)]
theorem cutL_from (l : List Nat) (n : Nat) : cutL l (some (n : Int)) none = l.drop n := by
  unfold cutL
  rw [HT.sIx_none, HT.sIx_nat]
  by_cases h : n ≤ l.length
  · rw [Nat.min_eq_left h, List.take_of_length_le (by rw [List.length_drop]; exact Nat.le_refl _)]
  · rw [Nat.min_eq_right (by omega), List.drop_of_length_le (Nat.le_refl _), List.drop_of_length_le (by omega), List.take_nil]
theorem cutL_to1 (l : List Nat) (i : Nat) : cutL l none (some (1 + (i : Int))) = l.take (i + 1) := by
  have := cutL_to l (i + 1)
  rw [show ((i + 1 : Nat) : Int) = 1 + (i : Int) by omega] at this
  exact this
/-- None, or a number -/
def optV : Option Nat → V
  | none => .non
  | some n => .int (n : Int)
theorem isi_int {K : PySem.W.Frag} {H : Hp} {i : Int} {Q : VK} {n : String} {b : Bool} (h : kitB "int" n = some b) (q : Q (.bl b) H) : rIsi K [.int i, .ty n] H Q :=
  ⟨_, _, .type "int", .type n, b, rfl, .ty _, .base (.int _), kit_ty h, q⟩
theorem isi_str {K : PySem.W.Frag} {H : Hp} {x : Str} {Q : VK} {n : String} {b : Bool} (h : kitB "str" n = some b) (q : Q (.bl b) H) : rIsi K [.str x, .ty n] H Q :=
  ⟨_, _, .type "str", .type n, b, rfl, .ty _, .base (.str _), kit_ty h, q⟩
theorem isi_lst {K : PySem.W.Frag} {H : Hp} {a : Addr} {xs : List V} (e : H a = some (.lst xs)) {Q : VK} {n : String} {b : Bool} (h : kitB "list" n = some b) (q : Q (.bl b) H) : rIsi K [.ref a, .ty n] H Q :=
  ⟨_, _, .type "list", .type n, b, rfl, .ty _, .base (.lst e), kit_ty h, q⟩
theorem isi_tup {K : PySem.W.Frag} {H : Hp} {a : Addr} {xs : List V} (e : H a = some (.tup xs)) {Q : VK} {n : String} {b : Bool} (h : kitB "tuple" n = some b) (q : Q (.bl b) H) : rIsi K [.ref a, .ty n] H Q :=
  ⟨_, _, .type "tuple", .type n, b, rfl, .ty _, .base (.tup e), kit_ty h, q⟩
theorem ne_one (c d : Nat) : (!decide ([c] = [d])) = decide (c ≠ d) := by
  by_cases h : c = d
  · subst h; simp
  · simp [h]
/-- reversed(range(lo, hi)): N turns, from the last one -/
theorem walkDown {lo hi : Int} {N : Nat} (hN : (hi - lo).toNat = N) : Walk (Itc (lo + (((hi - lo).toNat : Nat) : Int) - 1) (-1) (hi - lo).toNat) N (fun _ => True) (fun i H x H' => H' = H ∧ x = .int (lo + ((N - 1 - i : Nat) : Int))) := by
  subst hN
  refine walk_rangeC.mono (fun _ _ => trivial) fun i H x H' hi _ y => ⟨y.1, ?_⟩
  rw [y.2]
  show V.int _ = V.int _
  congr 1
  omega
theorem walkDown0 {hi : Int} {N : Nat} (hN : (hi - 0).toNat = N) : Walk (Itc (0 + (((hi - 0).toNat : Nat) : Int) - 1) (-1) (hi - 0).toNat) N (fun _ => True) (fun i H x H' => H' = H ∧ x = .int ((N - 1 - i : Nat) : Int)) :=
  (walkDown hN).mono (fun _ _ => trivial) fun i H x H' _ _ y => ⟨y.1, by rw [y.2, Int.zero_add]⟩
theorem tx_get {ls : List (List Nat)} {i : Nat} {x : V} (h : (tx ls)[i]? = some x) : ∃ l, ls[i]? = some l ∧ x = .str (S l) := by
  rw [List.getElem?_map] at h
  obtain ⟨l, h1, h2⟩ := Option.map_eq_some_iff.mp h
  exact ⟨l, h1, h2.symm⟩
/-- a text cut at its strokes -/
def splitL (t : List Nat) : List (List Nat) := spl [47] 0 [] t
theorem split_S (t : List Nat) : Txt.split (S t) (S [47]) = (splitL t).map S := by
  refine map_tl_inj ?_
  rw [split_spl (S t) (S [47]) (by show [47] ≠ []; simp) (kind_ok (by decide +kernel)), List.map_map]
  show spl [47] 0 [] t = (splitL t).map (tl ∘ S)
  rw [show (tl ∘ S : List Nat → List Nat) = id from rfl, List.map_id]
  rfl
def rSplitS : V → List V → Hp → VK → Prop := fun x xs H Q => ∃ t, x = .str (S t) ∧ xs = [.str (S [47])] ∧ t.length + 2 ≤ 100000 ∧ ∀ p, H p = none → Q (.ref p) (upd H p (.lst (tx (splitL t))))
section
variable {X : Cx}
theorem mt_splitS : MtR X "str.split" rSplitS := by
  intro pins s σ H x xs v us Q I rx rs h
  obtain ⟨t, e1, e2, hz, q⟩ := h
  refine mt_split pins s σ H x xs v us Q I rx rs ⟨S t, S [47], e1, e2, rfl, by rw [S_len]; exact line_of hz, fun p hp => ?_⟩
  rw [split_S, List.map_map]
  exact q p hp
theorem pe_splitS {o e : Expr} {to te : TE} {apos pos : Pos} (ho : PE X o to) (he : PE X e te) (hs : starEach [e] X.env = [(false, eval e X.env)] := by rfl) (hbase : attributeBase o "split" X.env (eval o X.env) = eval o X.env := by rfl) (hline : (apos.endLine == pos.line) = true := by rfl) :
    PE X (.Call (.Attribute o "split" apos) [e] [] pos) (tM1 rSplitS to te) := pe_m1 F.slot_str_split F.type_str_split mt_splitS ho he hs hbase hline
end
theorem split_join_S {ls : List (List Nat)} (hne : ls ≠ []) (h : ∀ l ∈ ls, 47 ∉ l) : splitL (joinL [47] ls) = ls := spl_join hne h
theorem joinL_snoc (sep x : List Nat) : ∀ {ls : List (List Nat)}, ls ≠ [] → joinL sep (ls ++ [x]) = joinL sep ls ++ sep ++ x
  | [], h => absurd rfl h
  | [p], _ => by
    show p ++ (sep ++ joinL sep [x]) = p ++ sep ++ x
    rw [List.append_assoc]
    rfl
  | p :: q :: r, _ => by
    show p ++ (sep ++ joinL sep ((q :: r) ++ [x])) = p ++ (sep ++ joinL sep (q :: r)) ++ sep ++ x
    rw [joinL_snoc sep x (ls := q :: r) (by simp)]
    simp only [List.append_assoc]
theorem joinL_len (sep : List Nat) : ∀ ls : List (List Nat), (joinL sep ls).length ≤ (ls.map List.length).sum + ls.length * sep.length
  | [] => Nat.zero_le _
  | [p] => by
    show p.length ≤ p.length + 0 + _
    omega
  | p :: q :: r => by
    have ih := joinL_len sep (q :: r)
    show (p ++ (sep ++ joinL sep (q :: r))).length ≤ p.length + ((q :: r).map List.length).sum + ((q :: r).length + 1) * sep.length
    rw [List.length_append, List.length_append, Nat.succ_mul]
    omega
end Lw

set_option Elab.async false
set_option linter.all false
set_option maxRecDepth 100000
set_option maxHeartbeats 4000000
/-! Lampwatch, own prelude: books and lists of tuples as data, heaps, comprehensions that give tuples. -/
namespace Lw
open PySem PySem.Spec PyProof.Rows L2 TL
theorem same_none {H H' : Hp} {f : Addr} (s : Same H H') (h : H' f = none) : H f = none := by
  cases e : H f with
  | none => rfl
  | some x => rw [s _ _ e] at h; cases h
/-! ### books as data -/
def bookD (ls : List (List Nat)) : PyData := .list (ls.map fun l => .str (S l))
theorem dp_all {K : PySem.W.Frag} {H : Hp} : ∀ ls : List (List Nat), DpAll K H (tx ls) (ls.map fun l => .str (S l))
  | [] => .nil
  | _ :: ls => .cons (.str _) (dp_all ls)
theorem dp_tx {K : PySem.W.Frag} {H : Hp} {a : Addr} {ls : List (List Nat)} (h : SqL K H a (tx ls)) : Dp K H (.ref a) (bookD ls) := .lst h (dp_all ls)
def strOkL (l : List Nat) : Prop := ∀ c ∈ l, c < 1114112
theorem str_lay {l : List Nat} (h : strOkL l) : (PyData.str (S l)).canLay0 = true := by
  simp only [PyData.canLay0]
  show (S l).cps.all _ = true
  rw [Array.all_eq_true']
  intro c hc
  exact decide_eq_true (h c (by simpa using hc))
theorem books_lay : ∀ {ls : List (List Nat)}, (∀ l ∈ ls, strOkL l) → PyData.canLayAll0 (ls.map fun l => .str (S l)) = true
  | [], _ => by simp [PyData.canLayAll0]
  | l :: ls, h => by
    simp only [List.map_cons, PyData.canLayAll0]
    rw [str_lay (h l (List.mem_cons_self ..)), books_lay fun x hx => h x (List.mem_cons_of_mem _ hx)]
    rfl
theorem books_depth : ∀ ls : List (List Nat), PyData.depthAll (ls.map fun l => .str (S l)) ≤ 2
  | [] => by simp [PyData.depthAll]
  | l :: ls => by
    have h := books_depth ls
    simp only [List.map_cons, PyData.depthAll, PyData.depth]
    omega
theorem bookD_shaped {ls : List (List Nat)} (h : ∀ l ∈ ls, strOkL l) : SeqAt.shaped (bookD ls) = true := by
  have h1 := books_depth ls
  have h2 : PyData.depth (bookD ls) ≤ 64 := by
    simp only [bookD, PyData.depth]
    omega
  show (PyData.canLay0 (bookD ls) && decide (PyData.depth (bookD ls) ≤ 64)) = true
  rw [Bool.and_eq_true]
  exact ⟨by simp only [bookD, PyData.canLay0]; exact books_lay h, decide_eq_true h2⟩
theorem strs_eqv : ∀ as bs : List (List Nat), PyData.eqvAll (as.map fun l => .str (S l)) (bs.map fun l => .str (S l)) = decide (as = bs)
  | [], [] => by simp [PyData.eqvAll]
  | [], _ :: _ => by simp [PyData.eqvAll]
  | _ :: _, [] => by simp [PyData.eqvAll]
  | a :: as, b :: bs => by
    simp only [List.map_cons, PyData.eqvAll, PyData.eqv]
    rw [strs_eqv as bs, Bool.eq_iff_iff]
    simp only [Bool.and_eq_true, decide_eq_true_eq, beq_iff_eq, List.cons.injEq]
    exact ⟨fun h => ⟨S_inj h.1, h.2⟩, fun h => ⟨by rw [h.1], h.2⟩⟩
theorem bookD_eqv (as bs : List (List Nat)) : PyData.eqv (bookD as) (bookD bs) = decide (as = bs) := by
  simp only [bookD, PyData.eqv]
  exact strs_eqv as bs
theorem good_ok {l : List Nat} (h : Good l) : strOkL l := fun c hc => by
  have := h.2.2 c hc
  unfold isSign at this
  rw [Bool.or_eq_true] at this
  rcases this with z | z
  · have := eq_of_beq z; omega
  · have := eq_of_beq z; omega
theorem book_ok {ls : List (List Nat)} (h : Book ls) : ∀ l ∈ ls, strOkL l := fun l hl => good_ok (h.2.2 l hl)
/-- two books, known by their lights, compared -/
theorem neq_books {K : PySem.W.Frag} {H : Hp} {a b : Addr} {ls ms : List (List Nat)} {Q : VK} (h1 : SqL K H a (tx ls)) (h2 : SqL K H b (tx ms)) (o1 : ∀ l ∈ ls, strOkL l) (o2 : ∀ l ∈ ms, strOkL l) (q : Q (.bl (!decide (ls = ms))) H) : rNeD K (.ref a) (.ref b) H Q :=
  ⟨_, _, dp_tx h1, dp_tx h2, bookD_shaped o1, bookD_shaped o2, by rw [bookD_eqv]; exact q⟩
theorem eq_books {K : PySem.W.Frag} {H : Hp} {a b : Addr} {ls ms : List (List Nat)} {Q : VK} (h1 : SqL K H a (tx ls)) (h2 : SqL K H b (tx ms)) (o1 : ∀ l ∈ ls, strOkL l) (o2 : ∀ l ∈ ms, strOkL l) (q : Q (.bl (decide (ls = ms))) H) : rEqD K (.ref a) (.ref b) H Q :=
  ⟨_, _, dp_tx h1, dp_tx h2, bookD_shaped o1, bookD_shaped o2, by rw [bookD_eqv]; exact q⟩
theorem cutV_from (ls : List V) (n : Nat) : cutV ls (some (n : Int)) none = ls.drop n := by
  unfold cutV
  rw [HT.sIx_none, HT.sIx_nat]
  by_cases h : n ≤ ls.length
  · rw [Nat.min_eq_left h, List.take_of_length_le (by rw [List.length_drop]; exact Nat.le_refl _)]
  · rw [Nat.min_eq_right (by omega), List.drop_of_length_le (Nat.le_refl _), List.drop_of_length_le (by omega), List.take_nil]
theorem cutV_to (ls : List V) (n : Nat) : cutV ls none (some (n : Int)) = ls.take n := by
  unfold cutV
  rw [HT.sIx_none, HT.sIx_nat, List.drop_zero, Nat.sub_zero]
  by_cases h : n ≤ ls.length
  · rw [Nat.min_eq_left h]
  · rw [Nat.min_eq_right (by omega), List.take_of_length_le (Nat.le_refl _), List.take_of_length_le (by omega)]
theorem cut_tx_from (ls : List (List Nat)) (n : Nat) : cutV (tx ls) (some (n : Int)) none = tx (ls.drop n) := by
  rw [cutV_from]
  exact List.map_drop.symm
theorem cut_tx_to (ls : List (List Nat)) (n : Nat) : cutV (tx ls) none (some (n : Int)) = tx (ls.take n) := by
  rw [cutV_to]
  exact List.map_take.symm
theorem tx_at {ls : List (List Nat)} {i : Nat} {l : List Nat} (h : ls[i]? = some l) : (tx ls)[i]? = some (.str (S l)) := by
  rw [List.getElem?_map, h]
  rfl
/-! ### rules that name the frozen heap, where a comprehension wants them plain -/
section
variable {X : Cx} {K : PySem.W.Frag}
theorem crK {f : Value} {r : PySem.W.Frag → List V → Hp → VK → Prop} (e : X.K = K) (h : CallR X f (r X.K)) : CallR X f (r K) := e ▸ h
theorem ixK {r : PySem.W.Frag → R2} (e : X.K = K) (h : IxR X (r X.K)) : IxR X (r K) := e ▸ h
theorem opK {f : Value → Value → Sem Value} {r : PySem.W.Frag → R2} (e : X.K = K) (h : OpR X f (r X.K)) : OpR X f (r K) := e ▸ h
end
/-! ### lists of tuples of ints -/
inductive Tups (H : Hp) : List V → List (List Int) → Prop
  | nil : Tups H [] []
  | cons {t : Addr} {ns : List Int} {xs : List V} {ts : List (List Int)} : H t = some (.tup (ns.map V.int)) → Tups H xs ts → Tups H (.ref t :: xs) (ns :: ts)
theorem Tups.len {H : Hp} : ∀ {xs : List V} {ts : List (List Int)}, Tups H xs ts → xs.length = ts.length
  | _, _, .nil => rfl
  | _, _, .cons _ h => by rw [List.length_cons, List.length_cons, h.len]
theorem Tups.mono {H H' : Hp} (e : Same H H') : ∀ {xs : List V} {ts : List (List Int)}, Tups H xs ts → Tups H' xs ts
  | _, _, .nil => .nil
  | _, _, .cons h1 h => .cons (e _ _ h1) (h.mono e)
theorem Tups.app {H : Hp} : ∀ {xs : List V} {ts : List (List Int)} {ys : List V} {us : List (List Int)}, Tups H xs ts → Tups H ys us → Tups H (xs ++ ys) (ts ++ us)
  | _, _, _, _, .nil, h2 => h2
  | _, _, _, _, .cons h1 h, h2 => .cons h1 (h.app h2)
theorem Tups.one {H : Hp} {t : Addr} {ns : List Int} (h : H t = some (.tup (ns.map V.int))) : Tups H [.ref t] [ns] := .cons h .nil
theorem Tups.get {H : Hp} : ∀ {xs : List V} {ts : List (List Int)} {i : Nat} {x : V}, Tups H xs ts → xs[i]? = some x → ∃ t ns, x = .ref t ∧ ts[i]? = some ns ∧ H t = some (.tup (ns.map V.int))
  | _, _, _, _, .nil, h => by cases h
  | _, _, 0, _, .cons h1 _, h => by
    have e := Option.some.inj h
    subst e
    exact ⟨_, _, rfl, rfl, h1⟩
  | _, _, i + 1, _, .cons _ h1, h => h1.get (i := i) h
theorem Tups.at {H : Hp} : ∀ {xs : List V} {ts : List (List Int)} {i : Nat} {ns : List Int}, Tups H xs ts → ts[i]? = some ns → ∃ t, xs[i]? = some (.ref t) ∧ H t = some (.tup (ns.map V.int))
  | _, _, _, _, .nil, h => by cases h
  | _, _, 0, _, .cons h1 _, h => by
    have e := Option.some.inj h
    subst e
    exact ⟨_, rfl, h1⟩
  | _, _, i + 1, _, .cons _ h1, h => h1.at (i := i) h
theorem Tups.take {H : Hp} : ∀ {xs : List V} {ts : List (List Int)} (n : Nat), Tups H xs ts → Tups H (xs.take n) (ts.take n)
  | _, _, 0, _ => by rw [List.take_zero, List.take_zero]; exact .nil
  | _, _, n + 1, .nil => .nil
  | _, _, n + 1, .cons h1 h => .cons h1 (h.take n)
def tupD (ns : List Int) : PyData := .tuple (ns.map .int)
theorem dp_ints {K : PySem.W.Frag} {H : Hp} : ∀ ns : List Int, DpAll K H (ns.map V.int) (ns.map .int)
  | [] => .nil
  | _ :: ns => .cons (.int _) (dp_ints ns)
theorem dp_tup {K : PySem.W.Frag} {H : Hp} {t : Addr} {ns : List Int} (h : H t = some (.tup (ns.map V.int))) : Dp K H (.ref t) (tupD ns) := .tup (SqT.of h) (dp_ints ns)
theorem dp_tups {K : PySem.W.Frag} {H : Hp} : ∀ {xs : List V} {ts : List (List Int)}, Tups H xs ts → DpAll K H xs (ts.map tupD)
  | _, _, .nil => .nil
  | _, _, .cons h1 h => .cons (dp_tup h1) (dp_tups h)
theorem ints_lay : ∀ ns : List Int, PyData.canLayAll0 (ns.map .int) = true
  | [] => by simp [PyData.canLayAll0]
  | n :: ns => by simp [PyData.canLayAll0, PyData.canLay0, ints_lay ns]
theorem ints_depth : ∀ ns : List Int, PyData.depthAll (ns.map .int) ≤ 2
  | [] => by simp [PyData.depthAll]
  | n :: ns => by
    have h := ints_depth ns
    simp only [List.map_cons, PyData.depthAll, PyData.depth]
    omega
theorem ints_eqv : ∀ as bs : List Int, PyData.eqvAll (as.map .int) (bs.map .int) = decide (as = bs)
  | [], [] => by simp [PyData.eqvAll]
  | [], _ :: _ => by simp [PyData.eqvAll]
  | _ :: _, [] => by simp [PyData.eqvAll]
  | a :: as, b :: bs => by
    simp only [List.map_cons, PyData.eqvAll, PyData.eqv]
    rw [ints_eqv as bs, Bool.eq_iff_iff]
    simp only [Bool.and_eq_true, decide_eq_true_eq, beq_iff_eq, List.cons.injEq]
theorem tupD_lay (ns : List Int) : (tupD ns).canLay0 = true := by simp only [tupD, PyData.canLay0]; exact ints_lay ns
theorem tupD_depth (ns : List Int) : (tupD ns).depth ≤ 3 := by
  have := ints_depth ns
  simp only [tupD, PyData.depth]
  omega
theorem tupD_shaped (ns : List Int) : SeqAt.shaped (tupD ns) = true := by
  have h := tupD_depth ns
  show ((tupD ns).canLay0 && decide ((tupD ns).depth ≤ 64)) = true
  rw [Bool.and_eq_true]
  exact ⟨tupD_lay ns, decide_eq_true (by omega)⟩
theorem tupD_eqv (as bs : List Int) : PyData.eqv (tupD as) (tupD bs) = decide (as = bs) := by
  simp only [tupD, PyData.eqv]
  exact ints_eqv as bs
def intsD (ns : List Int) : PyData := .list (ns.map .int)
theorem intsD_shaped (ns : List Int) : SeqAt.shaped (intsD ns) = true := by
  have h := ints_depth ns
  have h2 : PyData.depth (intsD ns) ≤ 64 := by
    simp only [intsD, PyData.depth]
    omega
  show ((intsD ns).canLay0 && decide ((intsD ns).depth ≤ 64)) = true
  rw [Bool.and_eq_true]
  exact ⟨by simp only [intsD, PyData.canLay0]; exact ints_lay ns, decide_eq_true h2⟩
theorem intsD_eqv (as bs : List Int) : PyData.eqv (intsD as) (intsD bs) = decide (as = bs) := by
  simp only [intsD, PyData.eqv]
  exact ints_eqv as bs
theorem dp_intsL {K : PySem.W.Frag} {H : Hp} {t : Addr} {ns : List Int} (h : SqL K H t (ns.map V.int)) : Dp K H (.ref t) (intsD ns) := .lst h (dp_ints ns)
theorem tupDs_lay : ∀ ts : List (List Int), PyData.canLayAll0 (ts.map tupD) = true
  | [] => by simp [PyData.canLayAll0]
  | t :: ts => by simp [PyData.canLayAll0, tupD_lay t, tupDs_lay ts]
theorem tupDs_depth : ∀ ts : List (List Int), PyData.depthAll (ts.map tupD) ≤ 4
  | [] => by simp [PyData.depthAll]
  | t :: ts => by
    have h1 := tupDs_depth ts
    have h2 := tupD_depth t
    simp only [List.map_cons, PyData.depthAll]
    omega
theorem tupDs_shaped (ts : List (List Int)) : SeqAt.shaped (.list (ts.map tupD)) = true := by
  have h1 := tupDs_depth ts
  have h2 : PyData.depth (.list (ts.map tupD)) ≤ 64 := by
    simp only [PyData.depth]
    omega
  show (PyData.canLay0 (.list (ts.map tupD)) && decide (PyData.depth (.list (ts.map tupD)) ≤ 64)) = true
  rw [Bool.and_eq_true]
  exact ⟨by simp only [PyData.canLay0]; exact tupDs_lay ts, decide_eq_true h2⟩
theorem any_tupD (a : List Int) : ∀ ts : List (List Int), ((ts.map tupD).any fun z => PyData.eqv z (tupD a)) = decide (a ∈ ts)
  | [] => by simp
  | t :: ts => by
    rw [List.map_cons, List.any_cons, any_tupD a ts, tupD_eqv, Bool.eq_iff_iff]
    simp only [Bool.or_eq_true, decide_eq_true_eq, List.mem_cons]
    exact ⟨fun h => h.imp Eq.symm id, fun h => h.imp Eq.symm id⟩
theorem ne_tup {K : PySem.W.Frag} {H : Hp} {a b : Addr} {ns ms : List Int} {Q : VK} (h1 : H a = some (.tup (ns.map V.int))) (h2 : H b = some (.tup (ms.map V.int))) (q : Q (.bl (!decide (ns = ms))) H) : rNeD K (.ref a) (.ref b) H Q :=
  ⟨_, _, dp_tup h1, dp_tup h2, tupD_shaped _, tupD_shaped _, by rw [tupD_eqv]; exact q⟩
theorem notIn_tups {K : PySem.W.Frag} {H : Hp} {a b : Addr} {ns : List Int} {xs : List V} {ts : List (List Int)} {Q : VK} (h1 : H a = some (.tup (ns.map V.int))) (h2 : SqL K H b xs) (h3 : Tups H xs ts) (q : Q (.bl (!decide (ns ∈ ts))) H) : rNotInD K (.ref a) (.ref b) H Q :=
  ⟨_, _, dp_tup h1, .lst h2 (dp_tups h3), tupD_shaped _, tupDs_shaped _, by rw [any_tupD]; exact q⟩
/-! ### comprehensions that give tuples -/
def pick {α : Type} (n : Nat) (f : Nat → Bool) (v : Nat → α) : List α := ((List.range n).filter f).map v
theorem pick_yes {α : Type} {n : Nat} {f : Nat → Bool} {v : Nat → α} (h : f n = true) : pick (n + 1) f v = pick n f v ++ [v n] := by
  unfold pick
  rw [List.range_succ, List.filter_append, List.map_append]
  simp [h]
theorem pick_no {α : Type} {n : Nat} {f : Nat → Bool} {v : Nat → α} (h : f n = false) : pick (n + 1) f v = pick n f v := by
  unfold pick
  rw [List.range_succ, List.filter_append, List.map_append]
  simp [h]
theorem pick_len {α : Type} (n : Nat) (f : Nat → Bool) (v : Nat → α) : (pick n f v).length ≤ n := by
  unfold pick
  rw [List.length_map]
  exact Nat.le_trans (List.length_filter_le _ _) (by rw [List.length_range]; exact Nat.le_refl _)
theorem pick_all {α : Type} (n : Nat) (v : Nat → α) : pick n (fun _ => true) v = (List.range n).map v := by
  unfold pick
  rw [List.filter_eq_self.mpr fun _ _ => rfl]
section
variable {J : It} {n : Nat} {G : Hp → Prop} {Y : Nat → Hp → V → Hp → Prop}
theorem lc_tups (w : Walk J n G Y) {g : TG} {tt : TT} {te : TE} {vs : List Nat} {σ : L2.St} {H1 : Hp} {D : Addr} {Qd : Hp → Prop} (f : Nat → Bool) (v : Nat → List Int) (hn : n ≤ 100000) (hD : H1 D = none)
    (hG : ∀ H, Same H1 H → G H) (hY : ∀ i H x H', Y i H x H' → Same H H')
    (hs : ∀ i x H H', i < n → Same H1 H → Y i H x H' → ∀ (k : V → Hp → Prop) (k' : Hp → Prop), (f i = true → ∀ H4 t, Same H' H4 → H4 t = some (.tup ((v i).map V.int)) → k (.ref t) H4) → (f i = false → ∀ H4, Same H' H4 → k' H4) →
      g x (wipe σ vs) H' fun σ2 H2 => wipe σ2 vs = wipe σ vs ∧ tt σ2 H2 fun b H3 => if b = true then te σ2 H3 k else k' H3)
    (hd : ∀ H xs, Same H1 H → H D = some (.lst xs) → Tups H xs (pick n f v) → Qd H) :
    ∃ W : Nat → Nat → Hp → Prop, (∃ m, W 0 m (upd H1 D (.lst []))) ∧ ∀ i m H, W i m H →
      (J.stop i H ∧ Qd H) ∨ (J.go i H ∧ ∃ Nx : Hp → Prop, (∀ H', Nx H' → ∃ m', m' < m ∧ W (i + 1) m' H') ∧ ∀ x H', J.yld i H x H' → g x (wipe σ vs) H' fun σ2 H2 => wipe σ2 vs = wipe σ vs ∧ tt σ2 H2 fun b H3 =>
        if b = true then te σ2 H3 fun y H4 => ∃ acc, H4 D = some (.lst acc) ∧ acc.length < sizeLine ∧ Nx (upd H4 D (.lst (acc ++ [y]))) else Nx H3) := by
  refine lc_it w (fun i H => i ≤ n ∧ Same H1 H ∧ ∃ xs, H D = some (.lst xs) ∧ Tups H xs (pick i f v)) ⟨Nat.zero_le _, same_upd hD, [], upd_same, .nil⟩ (fun i H _ p => hG H p.2.1) (fun i x H H' hi p y => ?_) (fun H p => by obtain ⟨_, s, xs, e, t⟩ := p; exact hd H xs s e t)
  obtain ⟨_, s1, xs, e, tp⟩ := p
  have s2 := hY i H x H' y
  refine hs i x H H' hi s1 y _ _ (fun hf H4 t s4 ht => ?_) (fun hf H4 s4 => ?_)
  · have e4 := s4 _ _ (s2 _ _ e)
    have tp4 := tp.mono (s2.trans s4)
    have hl : xs.length ≤ n := by rw [tp.len]; exact Nat.le_trans (pick_len i f v) (by omega)
    refine ⟨_, e4, line_lt (by omega), hi, Same_mut ((s1.trans s2).trans s4) hD, xs ++ [.ref t], upd_same, ?_⟩
    rw [pick_yes hf]
    have keep : ∀ {ys : List V} {us : List (List Int)}, Tups H4 ys us → Tups (upd H4 D (.lst (xs ++ [.ref t]))) ys us := by
      intro ys us z
      induction z with
      | nil => exact .nil
      | @cons t' ns' xs' ts' h1 _ ih =>
        refine .cons ?_ ih
        have hne : t' ≠ D := fun z => by rw [z, e4] at h1; cases h1
        rw [upd_ne hne]
        exact h1
    exact (keep tp4).app (keep (.one ht))
  · have e4 := s4 _ _ (s2 _ _ e)
    refine ⟨hi, (s1.trans s2).trans s4, xs, e4, ?_⟩
    rw [pick_no hf]
    exact tp.mono (s2.trans s4)
end
/-- a list that the heap writes anew keeps the tuples -/
theorem Tups.wrote {H : Hp} {D : Addr} {zs ys : List V} (hD : H D = some (.lst zs)) {xs : List V} {ts : List (List Int)} (z : Tups H xs ts) : Tups (upd H D (.lst ys)) xs ts := by
  induction z with
  | nil => exact .nil
  | @cons t' ns' xs' ts' h1 _ ih =>
    refine .cons ?_ ih
    have hne : t' ≠ D := fun z => by rw [z, hD] at h1; cases h1
    rw [upd_ne hne]
    exact h1
end Lw

set_option Elab.async false
set_option linter.all false
set_option maxRecDepth 100000
set_option maxHeartbeats 4000000
/-! Lampwatch, own prelude: defs that refuse, the clause that catches, a def that the caught error is handed to. -/
namespace Lw
open PySem PySem.Spec PyProof.Rows L2 TL
section
variable {P : Program} {w : World} {K : PySem.W.Frag} {mg : Str → Option Value} {base : Heap}
/-- a def that may refuse (the error's context is None) -/
theorem okN {x qual : Str} {st : Stmt} {f : Addr} {fd : FuncData} {N ps : List Str} {k : Nat} {sp : Sp} (F : Fun K x qual st f fd) (Sc : FnScope N ps (defScope st))
    (hl : ∀ vs H Q E, sp vs H Q E → vs.length = ps.length)
    (hb : ∀ (cv : Value) (A : Around) (out : List Env) (s : Shared) (H : Hp) (vs : List V) (Q : VK) (E : XK), Room k (A.deeper (envOfC qual (defScope st) s.heap.objs.size f cv)) → sp vs H Q E →
      ∃ t, PSs (cxOf (L2N.CX P w) P w K mg base N qual (defScope st) f cv A out s H E) (defBody st) t ∧ t { nx := fun _ H2 => Q .non H2, rt := Q } (start N vs) H) :
    FnOk P w K mg base (L2N.CX P w) (k + 1) f fd ps sp := by
  obtain ⟨_, _, _, _, _, _, _, _, _, e, lk, hc⟩ := F.ex
  subst e
  exact fn_of lk hc Sc hl fun A out s H vs Q E room want => hb _ A out s H vs Q E room want
theorem takesN {X : Cx} : L2N.Takes X (fun _ _ _ _ => False) := fun _ _ z => by
  obtain ⟨_, _, _, _, _, _, _, _, _, _, _, _, _, _, _, _, no⟩ := z
  exact no.elim
theorem passN {X : Cx} : Passes (L2N.CX X.prog X.w) X E0 := fun _ _ _ _ _ _ _ z => by
  obtain ⟨_, _, _, _, _, _, _, _, _, _, _, _, no⟩ := z
  exact no.elim
/-- a def that is called while an error is handled, and that the error is handed to: its promise knows the error's place, class and dict -/
structure FnE (P : Program) (w : World) (K : PySem.W.Frag) (mg : Str → Option Value) (base : Heap) (k : Nat) (f : Addr) (fd : FuncData) (ps : List Str) (sp : Addr → Value → Option Addr → Sp) : Prop where
  many : ∀ a c d vs H Q E, sp a c d vs H Q E → vs.length = ps.length
  go : ∀ (A : Around) (out : List Env) (s : Shared) (H : Hp) (args : Args) (us : List Value) (vs : List V) (Q : VK) (p : Addr × Obj) (c : Value) (d : Option Addr), L2H.RoomH k A → L2H.Hot1 A p → L2N.Zn c d p.2 → L2H.PinOk out H s p →
    Env0 P w K mg base A out s H → BindsTo s fd args (ps.zip us) → Vals vs us → sp p.1 c d vs H Q E0 → codeAny (model P w) A (.call (.ref f) args) (CR CX0 out P w H s Q E0) s
theorem fnE_of {x qual : Str} {st : Stmt} {f : Addr} {fd : FuncData} {N ps : List Str} {k : Nat} {sp : Addr → Value → Option Addr → Sp} (F : Fun K x qual st f fd) (Sc : FnScope N ps (defScope st))
    (hl : ∀ a c d vs H Q E, sp a c d vs H Q E → vs.length = ps.length)
    (hb : ∀ (cv : Value) (A : Around) (out : List Env) (s : Shared) (H : Hp) (vs : List V) (Q : VK) (p : Addr × Obj) (c : Value) (d : Option Addr), L2H.Hot1 A p → L2N.Zn c d p.2 → L2H.RoomH k (A.deeper (envOfC qual (defScope st) s.heap.objs.size f cv)) → sp p.1 c d vs H Q E0 →
      ∃ t, PSs (L2H.cxH CX0 P w K mg base N qual (defScope st) f cv A out s H E0 p) (defBody st) t ∧ t { nx := fun _ H2 => Q .non H2, rt := Q } (L2.start N vs) H) :
    FnE P w K mg base (k + 1) f fd ps sp := by
  obtain ⟨_, _, _, _, _, _, cv, _, _, e, lk, hc⟩ := F.ex
  subst e
  refine ⟨hl, fun A out s H args us vs Q p c d room hot zn pin env bd rv want => ?_⟩
  have many := hl _ _ _ _ _ _ _ want
  have kin : K.In s.heap := env.mod.kin.keeps fun b o z => (env.bs b o z).1
  have nolim : s.heap.NoLimit := env.mod.nolimit.keeps fun b o z => (env.bs b o z).1
  refine codeAny_call_function room.depth (kin _ _ lk) rfl Sc.co Sc.gen rfl (PySem.W.codeRec_of kin hc) (bd _ _ _ _ ?_)
  refine wpAny_newFunctionEnv_cells Sc.kind (fun y hy => ?_) fun en hen s1 x1 => ?_
  · obtain ⟨n, v⟩ := y
    cases Sc.par n (List.of_mem_zip hy).1 with
    | inl z => exact .inl z
    | inr z => exact .inr ⟨z, PySem.W.cellsFrom_some _ _ _ (.inl z)⟩
  · subst hen
    refine ⟨nolim.keeps x1.toInCall.keep, codeAny_func ?_⟩
    obtain ⟨t, ht, want2⟩ := hb cv A out s H vs Q p c d hot zn (room.deeper _) want
    have start := L2H.inv_startH (CX := CX0) (qual := qual) (E := E0) Sc pin env many rv x1
    have leave : ∀ {s2 : Shared} {σ2 : L2.St} {H2 : Hp} {v : V} {u : Value}, Inv (L2H.cxH CX0 P w K mg base N qual (defScope st) f cv A out s H E0 p) [] σ2 H2 s2 → RelV v u → Q v H2 → CE out P w H s Q u s2 :=
      fun J r2 q2 => ⟨_, _, J.os, J.bare, J.base, J.hok, r2, q2⟩
    refine wpAny_mono (ht.run [] s1 (L2.start N vs) H _ start want2) (fun fl s2 h2 => ?_) fun _ _ z => z
    cases fl with
    | ret u =>
      obtain ⟨v, σ2, H2, J, r2, q2⟩ := h2
      exact leave J r2 q2
    | next =>
      obtain ⟨σ2, H2, J, q2⟩ := h2
      exact leave (v := V.non) (u := Value.none) J rfl q2
    | brk => exact False.elim h2.choose_spec.choose_spec.2
    | cont => exact False.elim h2.choose_spec.choose_spec.2
end
section
variable {X : Cx}
/-- such a def called: p is the error that the context bears -/
def tCallE (sp : Sp) (ta : TA) : TE := fun σ H Q => ta σ H fun vs H1 => sp vs H1 Q E0
theorem pe_callE {k : Nat} {f : Addr} {fd : FuncData} {ps : List Str} {sp : Addr → Value → Option Addr → Sp} {x : Str} {p0 pos : Pos} {e : Expr} {es : List Expr} {ta : TA} {p : Addr × Obj} {c : Value} {d : Option Addr}
    (F : FnE X.prog X.w X.K X.mg X.base k f fd ps sp) (room : L2H.RoomH k X.A) (hot : L2H.Hot1 X.A p) (hp : p ∈ X.pn) (zn : L2N.Zn c d p.2) (hg : Gl X x) (hm : X.mg x = some (.ref f)) (hk : PySem.W.keepIn X.K (.ref f) = true) (hb : Binds X.K fd ps [])
    (ha : PA X (e :: es) ta) (hdb : (x == ("__debug__" : Str)) = false := by decide) (he : starEach (e :: es) X.env = (false, eval e X.env) :: starEach es X.env := by rfl) (hpl : (backTo pos (starEach es X.env)).any (·.1) = false := by rfl) :
    PE X (.Call (.Name x p0) (e :: es) [] pos) (tCallE (sp p.1 c d) ta) := by
  refine ⟨fun pins s σ H Q I want => ?_⟩
  refine wpAny_Call_Name_kw (ld_glob I hg hm ?_ hdb)
  refine PySem.W.callWith_K (h₀ := X.base) I.ok.mod.kin hk (thn (ha.run pos pins s σ H _ I want) fun us s1 ⟨vs, H1, J, rv, want1⟩ => ⟨J.kIn, ?_⟩) he hpl
  have many : us.length = ps.length := by rw [← rv.length]; exact F.many _ _ _ _ _ _ _ want1
  have bd := hb s1 us J.kIn (by rw [List.append_nil]; exact many)
  rw [List.append_nil] at bd
  obtain ⟨g1, g2, g3, g4, g5⟩ := J.pin p (List.mem_append_left _ hp)
  have pin : L2H.PinOk X.stack H1 s1 p := ⟨g1, g2, fun z => (List.mem_cons.mp (J.stkSub p.1 z)).elim g3 g4, g5⟩
  refine wpAny_call (codeAny_mono (F.go X.A X.stack s1 H1 ⟨us, []⟩ us vs Q p c d room hot zn pin J.env0 bd rv want1) fun r s2 h2 => ?_)
  match r, h2 with
  | .error _, h2 => exact h2.elim
  | .ok (.ret _), h2 => exact J.after h2
  | .ok .next, h2 => exact h2.elim
  | .ok .brk, h2 => exact h2.elim
  | .ok .cont, h2 => exact h2.elim
/-- isinstance(e, c), e an error of the class D that the context bears -/
def rIsP (K : PySem.W.Frag) (D a : Addr) : List V → Hp → VK → Prop := fun xs H Q => ∃ (c : V) (cv : Value) (b : Bool), xs = [.ref a, c] ∧ (∀ u, RelV c u → u = cv) ∧ PySem.W.kitOne K (.ref D) cv = some b ∧ Q (.bl b) H
theorem call_isP {p : Addr × Obj} {D : Addr} (hp : p ∈ X.pn) (cls : ExcC X.K D) (zn : L2N.Zn (.ref D) none p.2) (hd : ∃ vs, p.2.data = .fields vs) : CallR X (.builtin "isinstance") (rIsP X.K D p.1) := by
  intro pins s σ H xs us Q I rv want
  obtain ⟨c, cv, b, exs, hcv, hb, q⟩ := want
  subst exs
  obtain ⟨u1, us1, eu, r1, rs⟩ : ∃ u1 us1, us = u1 :: us1 ∧ RelV (.ref p.1) u1 ∧ Vals [c] us1 := by cases rv with | cons r1 rs => exact ⟨_, _, rfl, r1, rs⟩
  subst eu
  obtain ⟨u2, eu2, r2⟩ := vals1 rs
  subst eu2
  have e1 : u1 = .ref p.1 := r1
  have e2 := hcv _ r2
  subst e1
  subst e2
  have get := (I.pin p (List.mem_append_left _ hp)).1
  have inst : PySem.W.InstAt s.heap p.1 p.2 D none := by
    obtain ⟨a, oe⟩ := p
    obtain ⟨z1, z2, _⟩ := zn
    obtain ⟨fs, z3⟩ := hd
    cases oe with
    | mk oc od oda osl =>
      simp only at z1 z2 z3
      subst z1 z2 z3
      exact ⟨get, rfl, rfl, trivial⟩
  refine PySem.W.kia_one (PySem.W.handS_kitx_exc cls.hg cls.hk cls.hs cls.hd cls.ha cls.hn cls.ht cls.hm) I.kIn inst hb (fun z => nomatch z) fun tk => ?_
  exact ⟨.bl b, H, I.kept (t' := tk) fun _ _ z => z, rfl, q⟩
/-- bools.count(True) -/
def rCntB (K : PySem.W.Frag) : V → List V → Hp → VK → Prop := fun x xs H Q => ∃ (p : Addr) (bs : List Bool) (k : Bool), x = .ref p ∧ xs = [.bl k] ∧ SqL K H p (bs.map V.bl) ∧ Q (.int (bs.count k : Nat)) H
def isB (k : Bool) : Value → Bool
  | .bool b => b == k
  | _ => false
theorem mt_lcountB : MtR X "list.count" (rCntB X.K) := by
  intro pins s σ H x xs v us Q I rx rxs want
  obtain ⟨p, bs, k, ex, exs, sq, q⟩ := want
  subst ex exs
  have ev : v = .ref p := rx
  subst ev
  obtain ⟨u, eu, ru⟩ := vals1 rxs
  subst eu
  have eb : u = .bool k := ru
  subst eb
  obtain ⟨its, rv, ⟨⟨cls, dd, data, sl⟩, n, ho, hc, hdn, hd⟩, _⟩ := I.list sq
  simp only at hc hd
  subst hc hd
  have ei := rv.bls
  subst ei
  refine call_meets PySem.F.slot_list_count ⟨_, ho, rfl⟩ PySem.F.entry_list_count (PySem.F.args_list_count_2 _ _) (SeqAt.list_countAt p (bs.map Value.bool).toArray n dd sl (.bool k) (isB k)) ⟨ho, fun y hy => ?_, ?_⟩
  · obtain ⟨b, _, e⟩ := List.mem_map.mp (show y ∈ bs.map Value.bool by simpa using hy)
    rw [← e]
    exact SeqAt.EqAt.bool_bool b k
  · refine ⟨.int (bs.count k : Nat), H, I.tok _, ⟨s.toks, ?_⟩, q⟩
    have : (bs.map Value.bool).countP (isB k) = bs.count k := by
      rw [List.countP_map]
      rfl
    show Value.int (((bs.map Value.bool).toArray.toList.countP (isB k) : Nat) : Int) s.toks = _
    rw [show (bs.map Value.bool).toArray.toList = bs.map Value.bool from rfl, this]
end
/-! ### the word of a refusal -/
def words : List (List Nat) := [[108, 105, 103, 104, 116], [98, 111, 111, 107], [115, 105, 103, 104, 116], [102, 105, 116], [108, 111, 110, 103], [110, 111, 116, 101]]
/-- D's errors are of the i-th of the six classes alone, and ValueErrors -/
structure Word (K : PySem.W.Frag) (c0 c1 c2 c3 c4 c5 D : Addr) (i : Nat) : Prop where
  exc : ExcC K D
  k0 : PySem.W.kitOne K (.ref D) (.ref c0) = some (i == 0)
  k1 : PySem.W.kitOne K (.ref D) (.ref c1) = some (i == 1)
  k2 : PySem.W.kitOne K (.ref D) (.ref c2) = some (i == 2)
  k3 : PySem.W.kitOne K (.ref D) (.ref c3) = some (i == 3)
  k4 : PySem.W.kitOne K (.ref D) (.ref c4) = some (i == 4)
  k5 : PySem.W.kitOne K (.ref D) (.ref c5) = some (i == 5)
  ve : PySem.W.kitOne K (.ref D) (.type "ValueError") = some true
theorem kit_ref {K : PySem.W.Frag} {D C : Addr} {b : Bool} (hc : PySem.W.isClsIn K C = true) (ht : PySem.W.typeIn K (.ref C) = some (.type "type")) (hself : PySem.W.subIn K (.ref D) (.ref D) = some true) (hs : PySem.W.subIn K (.ref D) (.ref C) = some b) : PySem.W.kitOne K (.ref D) (.ref C) = some b := by
  unfold PySem.W.kitOne
  by_cases e : D = C
  · subst e
    rw [hself] at hs
    rw [if_pos (by simp)]
    exact hs
  · rw [if_neg (by simpa using e)]
    have hc2 : (PySem.W.clsIn K C).isSome = true := hc
    have h2 : ((PySem.W.clsIn K C).isSome && PySem.W.typeIn K (.ref C) == some (.type "type")) = true := by rw [hc2, ht]; rfl
    show (if ((PySem.W.clsIn K C).isSome && PySem.W.typeIn K (.ref C) == some (.type "type")) = true then PySem.W.subIn K (.ref D) (.ref C) else none) = some b
    rw [if_pos h2]
    exact hs
theorem kit_ve {K : PySem.W.Frag} {D : Addr} (hs : PySem.W.subIn K (.ref D) (.type "ValueError") = some true) : PySem.W.kitOne K (.ref D) (.type "ValueError") = some true := by
  unfold PySem.W.kitOne
  rw [if_neg (by simp)]
  show (if PySem.W.kitMeta "ValueError" = true then PySem.W.subIn K (.ref D) (.type "ValueError") else none) = some true
  rw [if_pos (by decide +kernel)]
  exact hs
def flags (i : Nat) : List Bool := [i == 0, i == 1, i == 2, i == 3, i == 4, i == 5]
theorem flags_one : ∀ i, i < 6 → (flags i).count true = 1 := by decide
theorem flags_at : ∀ i, i < 6 → (flags i)[i]? = some true := by decide
theorem flags_no : ∀ i, i < 6 → ∀ m, m < i → (flags i)[m]? = some false := by decide
theorem words_at : ∀ i, i < 6 → words[i]? = some (words.getD i []) := by decide
theorem roomW {k : Nat} {A : Around} {v : Option Value} (r : Room k A) : L2H.RoomH k (A.mark v) := ⟨r.dp, r.un⟩
section
variable {X : Cx}
theorem hotW {a : Addr} {oe : Obj} {cls : Value} {d : Option Addr} {pn : List (Addr × Obj)} (zn : L2N.Zn cls d oe) (hd : ∃ vs, oe.data = .fields vs) : L2H.Hot1 (X.suite a ((a, oe) :: pn)).A (a, oe) :=
  ⟨rfl, by obtain ⟨vs, e⟩ := hd; exact ⟨vs, e, zn.2.2 vs e⟩⟩
/-- the def called in the suite -/
theorem pe_callW {k : Nat} {f a : Addr} {oe : Obj} {pn : List (Addr × Obj)} {fd : FuncData} {ps : List Str} {sp : Addr → Value → Option Addr → Sp} {x : Str} {p0 pos : Pos} {e : Expr} {es : List Expr} {ta : TA} {cls : Value} {d : Option Addr}
    (F : FnE X.prog X.w X.K X.mg X.base k f fd ps sp) (room : L2H.RoomH k (X.suite a ((a, oe) :: pn)).A) (hot : L2H.Hot1 (X.suite a ((a, oe) :: pn)).A (a, oe)) (zn : L2N.Zn cls d oe) (hg : Gl X x) (hm : X.mg x = some (.ref f)) (hk : PySem.W.keepIn X.K (.ref f) = true) (hb : Binds X.K fd ps [])
    (ha : PA (X.suite a ((a, oe) :: pn)) (e :: es) ta) (hdb : (x == ("__debug__" : Str)) = false := by decide) (he : starEach (e :: es) X.env = (false, eval e X.env) :: starEach es X.env := by rfl) (hpl : (backTo pos (starEach es X.env)).any (·.1) = false := by rfl) :
    PE (X.suite a ((a, oe) :: pn)) (.Call (.Name x p0) (e :: es) [] pos) (tCallE (sp a cls d) ta) :=
  pe_callE (X := X.suite a ((a, oe) :: pn)) (p := (a, oe)) F room hot (List.mem_cons_self ..) zn hg hm hk hb ha hdb he hpl
end
/-! ### texts cut at their strokes -/
def Cut (u : List Nat) (ls : List (List Nat)) : Prop := ls ≠ [] ∧ (∀ l ∈ ls, 47 ∉ l) ∧ joinL [47] ls = u
theorem Cut.start : Cut [] [[]] := ⟨by simp, fun l hl => by rw [List.mem_singleton.mp hl]; simp, rfl⟩
theorem Cut.stroke {u : List Nat} {ls : List (List Nat)} (h : Cut u ls) : Cut (u ++ [47]) (ls ++ [[]]) := by
  obtain ⟨h1, h2, h3⟩ := h
  refine ⟨by simp, fun l hl => ?_, ?_⟩
  · rcases List.mem_append.mp hl with z | z
    · exact h2 l z
    · rw [List.mem_singleton.mp z]; simp
  · rw [joinL_snoc [47] [] h1, h3, List.append_nil]
theorem joinL_app (sep x : List Nat) (c : Nat) : ∀ p : List (List Nat), joinL sep (p ++ [x ++ [c]]) = joinL sep (p ++ [x]) ++ [c]
  | [] => rfl
  | p :: q => by rw [joinL_snoc sep _ (ls := p :: q) (by simp), joinL_snoc sep _ (ls := p :: q) (by simp), List.append_assoc _ x [c]]
theorem Cut.sign {u x : List Nat} {p : List (List Nat)} {c : Nat} (h : Cut u (p ++ [x])) (hc : c ≠ 47) : Cut (u ++ [c]) (p ++ [x ++ [c]]) := by
  obtain ⟨h1, h2, h3⟩ := h
  refine ⟨by simp, fun l hl => ?_, by rw [joinL_app, h3]⟩
  rcases List.mem_append.mp hl with z | z
  · exact h2 l (List.mem_append_left _ z)
  · rw [List.mem_singleton.mp z]
    intro w
    rcases List.mem_append.mp w with w | w
    · exact h2 x (List.mem_append_right _ (List.mem_singleton.mpr rfl)) w
    · exact hc (List.mem_singleton.mp w).symm
theorem Cut.split {u : List Nat} {ls : List (List Nat)} (h : Cut u ls) : splitL u = ls := by
  obtain ⟨h1, h2, h3⟩ := h
  rw [← h3]
  exact split_join_S h1 h2
theorem last_of {ls : List (List Nat)} (h : ls ≠ []) : ∃ p x, ls = p ++ [x] := ⟨ls.dropLast, ls.getLast h, (List.dropLast_concat_getLast h).symm⟩
theorem cut_more : ∀ (v u : List Nat) (ls : List (List Nat)), Cut u ls → ∃ ls2, Cut (u ++ v) ls2
  | [], u, ls, h => ⟨ls, by rw [List.append_nil]; exact h⟩
  | c :: v, u, ls, h => by
    have e : u ++ c :: v = (u ++ [c]) ++ v := by simp
    rw [e]
    by_cases hc : c = 47
    · subst hc
      exact cut_more v _ _ h.stroke
    · obtain ⟨p, x, rfl⟩ := last_of h.1
      exact cut_more v _ _ (h.sign hc)
theorem cut_split (u : List Nat) : Cut u (splitL u) := by
  obtain ⟨ls, h⟩ := cut_more u [] [[]] Cut.start
  rw [List.nil_append] at h
  rw [h.split]
  exact h
theorem part_le (sep : List Nat) : ∀ {ls : List (List Nat)} {l : List Nat}, l ∈ ls → l.length ≤ (joinL sep ls).length
  | [p], l, h => by rw [List.mem_singleton.mp h]; exact Nat.le_refl _
  | p :: q :: r, l, h => by
    show l.length ≤ (p ++ (sep ++ joinL sep (q :: r))).length
    rw [List.length_append, List.length_append]
    rcases List.mem_cons.mp h with rfl | z
    · omega
    · have := part_le sep z
      omega
theorem many_le : ∀ ls : List (List Nat), ls.length ≤ (joinL [47] ls).length + 1
  | [] => Nat.zero_le _
  | [p] => by show 1 ≤ _; omega
  | p :: q :: r => by
    have ih := many_le (q :: r)
    show (q :: r).length + 1 ≤ (p ++ ([47] ++ joinL [47] (q :: r))).length + 1
    rw [List.length_append, List.length_append]
    show _ ≤ _ + (1 + _) + 1
    omega
theorem split_part {t l : List Nat} (h : l ∈ splitL t) : l.length ≤ t.length := by
  have := part_le [47] h
  rw [(cut_split t).2.2] at this
  exact this
theorem split_many (t : List Nat) : (splitL t).length ≤ t.length + 1 := by
  have := many_le (splitL t)
  rw [(cut_split t).2.2] at this
  exact this
def bookB (ls : List (List Nat)) : Bool := decide (ls.length ≤ 5) && ls.all lightB
theorem bookB_iff {t : List Nat} : bookB (splitL t) = true ↔ Book (splitL t) := by
  have hp := List.length_pos_iff.mpr (cut_split t).1
  unfold bookB Book
  rw [Bool.and_eq_true, decide_eq_true_eq, List.all_eq_true]
  constructor
  · rintro ⟨h1, h2⟩
    exact ⟨hp, h1, fun l hl => lightB_iff.mp (h2 l hl)⟩
  · rintro ⟨_, h1, h2⟩
    exact ⟨h1, fun l hl => lightB_iff.mpr (h2 l hl)⟩
theorem all_lights (ls : List (List Nat)) : ((List.range ls.length).map fun i => lightB (ls.getD i [])).all id = ls.all lightB := by
  have e : ls.map lightB = (List.range ls.length).map fun i => lightB (ls.getD i []) := by
    have := congrArg (List.map lightB) (range_getD ls [])
    rw [List.map_map] at this
    exact this.symm
  rw [← e, List.all_map]
  rfl
theorem strD_shaped {l : List Nat} (h : strOkL l) : SeqAt.shaped (PyData.str (S l)) = true := by
  have h2 : PyData.depth (.str (S l)) ≤ 64 := by simp only [PyData.depth]; omega
  show ((PyData.str (S l)).canLay0 && decide (PyData.depth (.str (S l)) ≤ 64)) = true
  rw [Bool.and_eq_true]
  exact ⟨str_lay h, decide_eq_true h2⟩
theorem strD_eqv (a b : List Nat) : PyData.eqv (.str (S a)) (.str (S b)) = decide (a = b) := by
  simp only [PyData.eqv]
  rw [Bool.eq_iff_iff]
  simp only [decide_eq_true_eq, beq_iff_eq]
  exact ⟨fun h => S_inj h, fun h => by rw [h]⟩
theorem intD_shaped (i : Int) : SeqAt.shaped (PyData.int i) = true := by
  have h2 : PyData.depth (.int i) ≤ 64 := by simp only [PyData.depth]; omega
  show ((PyData.int i).canLay0 && decide (PyData.depth (.int i) ≤ 64)) = true
  rw [Bool.and_eq_true]
  exact ⟨by simp only [PyData.canLay0], decide_eq_true h2⟩
theorem intD_eqv (a b : Int) : PyData.eqv (.int a) (.int b) = decide (a = b) := by
  simp only [PyData.eqv]
  rw [Bool.eq_iff_iff]
  simp only [decide_eq_true_eq, beq_iff_eq]
theorem tupDs_nil (ts : List (List Int)) : PyData.eqv (.list (ts.map tupD)) (.list []) = decide (ts = []) := by
  cases ts with
  | nil => simp [PyData.eqv, PyData.eqvAll]
  | cons t ts => simp [PyData.eqv, PyData.eqvAll]
/-! ### what is refused -/
def BadB (cb cl : Addr) (ls : List (List Nat)) (C : Addr) : Prop := (C = cb ∧ (ls.length < 1 ∨ 5 < ls.length)) ∨ (C = cl ∧ 1 ≤ ls.length ∧ ls.length ≤ 5 ∧ ∃ l ∈ ls, ¬ Good l)
def BadS (s : List Nat) : Prop := ¬ (s.length ≤ 100 ∧ ∀ c ∈ s, isSign c = true)
theorem all_signs (l : List Nat) : ((List.range l.length).map fun i => isSign (l.getD i 0)).all id = l.all isSign := by
  have e := congrArg (List.map isSign) (range_getD l 0)
  rw [List.map_map] at e
  have e2 : (List.range l.length).map (fun i => isSign (l.getD i 0)) = l.map isSign := e
  rw [e2, List.all_map]
  rfl
end Lw

set_option Elab.async false
set_option linter.all false
set_option maxRecDepth 100000
set_option maxHeartbeats 4000000
namespace Lw
open PySem PySem.Spec PyProof.Rows L2 TL
local macro_rules | `(tactic| walk_at "rd") => `(tactic| (repeat (first | refine ⟨_, rfl, ?_⟩ | refine ⟨_, _, rfl, rfl, ?_⟩ | refine ⟨rfl, ?_⟩ | refine iteT ?_)))
def topS (i : Nat) : Stmt := PySem.Challenge.pw_lampwatch_k14_refused.main.body.getD i (.Pass ⟨0, 0, 0, 0⟩)
abbrev s_is_light : Stmt := topS 11
theorem sc_is_light : FnScope ["text", "sign"] ["text"] (defScope s_is_light) := ⟨rfl, rfl, rfl, by decide +kernel, rfl, by decide +kernel, by decide +kernel⟩
abbrev s_asked_light : Stmt := topS 12
theorem sc_asked_light : FnScope ["text"] ["text"] (defScope s_asked_light) := ⟨rfl, rfl, rfl, by decide +kernel, rfl, by decide +kernel, by decide +kernel⟩
abbrev s_showing : Stmt := topS 13
theorem sc_showing : FnScope ["light", "moment", "long", "k"] ["light", "moment", "long"] (defScope s_showing) := ⟨rfl, rfl, rfl, by decide +kernel, rfl, by decide +kernel, by decide +kernel⟩
abbrev s_seen : Stmt := topS 14
theorem sc_seen : FnScope ["light", "moment", "long"] ["light", "moment", "long"] (defScope s_seen) := ⟨rfl, rfl, rfl, by decide +kernel, rfl, by decide +kernel, by decide +kernel⟩
abbrev s_shortest_of : Stmt := topS 15
theorem sc_shortest_of : FnScope ["row", "long"] ["row"] (defScope s_shortest_of) := ⟨rfl, rfl, rfl, by decide +kernel, rfl, by decide +kernel, by decide +kernel⟩
abbrev s_shortest : Stmt := topS 16
theorem sc_shortest : FnScope ["light"] ["light"] (defScope s_shortest) := ⟨rfl, rfl, rfl, by decide +kernel, rfl, by decide +kernel, by decide +kernel⟩
abbrev s_turn : Stmt := topS 17
theorem sc_turn : FnScope ["one", "other", "row", "aim", "moment"] ["one", "other"] (defScope s_turn) := ⟨rfl, rfl, rfl, by decide +kernel, rfl, by decide +kernel, by decide +kernel⟩
abbrev s_parting : Stmt := topS 18
theorem sc_parting : FnScope ["one", "moment", "other", "other_moment", "k"] ["one", "moment", "other", "other_moment"] (defScope s_parting) := ⟨rfl, rfl, rfl, by decide +kernel, rfl, by decide +kernel, by decide +kernel⟩
abbrev s_both : Stmt := topS 19
theorem sc_both : FnScope ["one", "other", "long", "row", "k", "found"] ["one", "other"] (defScope s_both) := ⟨rfl, rfl, rfl, by decide +kernel, rfl, by decide +kernel, by decide +kernel⟩
abbrev s_asked_book : Stmt := topS 22
theorem sc_asked_book : FnScope ["book", "light"] ["book"] (defScope s_asked_book) := ⟨rfl, rfl, rfl, by decide +kernel, rfl, by decide +kernel, by decide +kernel⟩
abbrev s_asked_sight : Stmt := topS 23
theorem sc_asked_sight : FnScope ["sight", "sign"] ["sight"] (defScope s_asked_sight) := ⟨rfl, rfl, rfl, by decide +kernel, rfl, by decide +kernel, by decide +kernel⟩
abbrev s_spots : Stmt := topS 24
theorem sc_spots : FnScope ["book", "found", "number", "light", "moment"] ["book"] (defScope s_spots) := ⟨rfl, rfl, rfl, by decide +kernel, rfl, by decide +kernel, by decide +kernel⟩
abbrev s_fitting : Stmt := topS 25
theorem sc_fitting : FnScope ["book", "sight", "spot"] ["book", "sight"] (defScope s_fitting) := ⟨rfl, rfl, rfl, by decide +kernel, rfl, by decide +kernel, by decide +kernel⟩
abbrev s_watch : Stmt := topS 26
theorem sc_watch : FnScope ["book", "most", "known", "k", "one", "other", "found"] ["book"] (defScope s_watch) := ⟨rfl, rfl, rfl, by decide +kernel, rfl, by decide +kernel, by decide +kernel⟩
abbrev s_twins : Stmt := topS 27
theorem sc_twins : FnScope ["book", "found", "one", "other", "moment"] ["book"] (defScope s_twins) := ⟨rfl, rfl, rfl, by decide +kernel, rfl, by decide +kernel, by decide +kernel⟩
abbrev s_fits : Stmt := topS 28
theorem sc_fits : FnScope ["book", "sight", "found"] ["book", "sight"] (defScope s_fits) := ⟨rfl, rfl, rfl, by decide +kernel, rfl, by decide +kernel, by decide +kernel⟩
abbrev s_sure : Stmt := topS 29
theorem sc_sure : FnScope ["book", "sight", "numbers", "spot"] ["book", "sight"] (defScope s_sure) := ⟨rfl, rfl, rfl, by decide +kernel, rfl, by decide +kernel, by decide +kernel⟩
abbrev s_coming : Stmt := topS 30
theorem sc_coming : FnScope ["book", "sight", "next_signs", "number", "moment", "sign"] ["book", "sight"] (defScope s_coming) := ⟨rfl, rfl, rfl, by decide +kernel, rfl, by decide +kernel, by decide +kernel⟩
abbrev s_shown : Stmt := topS 32
theorem sc_shown : FnScope ["book"] ["book"] (defScope s_shown) := ⟨rfl, rfl, rfl, by decide +kernel, rfl, by decide +kernel, by decide +kernel⟩
abbrev s__law_cell_at : Stmt := topS 34
theorem sc__law_cell_at : FnScope ["script", "k"] ["script", "k"] (defScope s__law_cell_at) := ⟨rfl, rfl, rfl, by decide +kernel, rfl, by decide +kernel, by decide +kernel⟩
abbrev s__law_word_of : Stmt := topS 35
theorem sc__law_word_of : FnScope ["e", "kinds"] ["e"] (defScope s__law_word_of) := ⟨rfl, rfl, rfl, by decide +kernel, rfl, by decide +kernel, by decide +kernel⟩
abbrev s__law_light_by : Stmt := topS 36
theorem sc__law_light_by : FnScope ["head", "cell", "size", "stir", "row", "k", "piece"] ["head", "cell"] (defScope s__law_light_by) := ⟨rfl, rfl, rfl, by decide +kernel, rfl, by decide +kernel, by decide +kernel⟩
abbrev s__law_book_by : Stmt := topS 37
theorem sc__law_book_by : FnScope ["script", "book", "k", "head", "light", "cut"] ["script"] (defScope s__law_book_by) := ⟨rfl, rfl, rfl, by decide +kernel, rfl, by decide +kernel, by decide +kernel⟩
abbrev s__law_of_lights : Stmt := topS 39
theorem sc__law_of_lights : FnScope ["which", "one", "other", "long"] ["which", "one", "other", "long"] (defScope s__law_of_lights) := ⟨rfl, rfl, rfl, by decide +kernel, rfl, by decide +kernel, by decide +kernel⟩
abbrev s__law_of_books : Stmt := topS 40
theorem sc__law_of_books : FnScope ["which", "book", "sight"] ["which", "book", "sight"] (defScope s__law_of_books) := ⟨rfl, rfl, rfl, by decide +kernel, rfl, by decide +kernel, by decide +kernel⟩
abbrev s__law_tried : Stmt := topS 41
theorem sc__law_tried : FnScope ["which", "one", "other", "long", "book", "sight", "e"] ["which", "one", "other", "long", "book", "sight"] (defScope s__law_tried) := ⟨rfl, rfl, rfl, by decide +kernel, rfl, by decide +kernel, by decide +kernel⟩
abbrev s__law_bad_light : Stmt := topS 42
theorem sc__law_bad_light : FnScope ["light", "cell", "at", "sign"] ["light", "cell"] (defScope s__law_bad_light) := ⟨rfl, rfl, rfl, by decide +kernel, rfl, by decide +kernel, by decide +kernel⟩
abbrev s__law_spoilt : Stmt := topS 43
theorem sc__law_spoilt : FnScope ["script", "book", "bad", "sight", "at"] ["script", "book", "bad"] (defScope s__law_spoilt) := ⟨rfl, rfl, rfl, by decide +kernel, rfl, by decide +kernel, by decide +kernel⟩
abbrev s__law_due : Stmt := topS 44
theorem sc__law_due : FnScope ["which", "bad"] ["which", "bad"] (defScope s__law_due) := ⟨rfl, rfl, rfl, by decide +kernel, rfl, by decide +kernel, by decide +kernel⟩
abbrev s_law : Stmt := topS 45
theorem sc_law : FnScope ["script", "one", "other", "long", "far", "bad", "book", "sight", "which", "found"] ["script"] (defScope s_law) := ⟨rfl, rfl, rfl, by decide +kernel, rfl, by decide +kernel, by decide +kernel⟩
structure Txt (K : PySem.W.Frag) (mg : Str → Option Value) where
  a_is_light : Addr
  d_is_light : FuncData
  f_is_light : Fun K "is_light" "is_light" s_is_light a_is_light d_is_light
  g_is_light : mg "is_light" = some (.ref a_is_light)
  b_is_light : Binds K d_is_light ["text"] []
  a_asked_light : Addr
  d_asked_light : FuncData
  f_asked_light : Fun K "asked_light" "asked_light" s_asked_light a_asked_light d_asked_light
  g_asked_light : mg "asked_light" = some (.ref a_asked_light)
  b_asked_light : Binds K d_asked_light ["text"] []
  a_showing : Addr
  d_showing : FuncData
  f_showing : Fun K "showing" "showing" s_showing a_showing d_showing
  g_showing : mg "showing" = some (.ref a_showing)
  b_showing : Binds K d_showing ["light", "moment", "long"] []
  a_seen : Addr
  d_seen : FuncData
  f_seen : Fun K "seen" "seen" s_seen a_seen d_seen
  g_seen : mg "seen" = some (.ref a_seen)
  b_seen : Binds K d_seen ["light", "moment", "long"] []
  a_shortest_of : Addr
  d_shortest_of : FuncData
  f_shortest_of : Fun K "shortest_of" "shortest_of" s_shortest_of a_shortest_of d_shortest_of
  g_shortest_of : mg "shortest_of" = some (.ref a_shortest_of)
  b_shortest_of : Binds K d_shortest_of ["row"] []
  a_shortest : Addr
  d_shortest : FuncData
  f_shortest : Fun K "shortest" "shortest" s_shortest a_shortest d_shortest
  g_shortest : mg "shortest" = some (.ref a_shortest)
  b_shortest : Binds K d_shortest ["light"] []
  a_turn : Addr
  d_turn : FuncData
  f_turn : Fun K "turn" "turn" s_turn a_turn d_turn
  g_turn : mg "turn" = some (.ref a_turn)
  b_turn : Binds K d_turn ["one", "other"] []
  a_parting : Addr
  d_parting : FuncData
  f_parting : Fun K "parting" "parting" s_parting a_parting d_parting
  g_parting : mg "parting" = some (.ref a_parting)
  b_parting : Binds K d_parting ["one", "moment", "other", "other_moment"] []
  a_both : Addr
  d_both : FuncData
  f_both : Fun K "both" "both" s_both a_both d_both
  g_both : mg "both" = some (.ref a_both)
  b_both : Binds K d_both ["one", "other"] []
  a_asked_book : Addr
  d_asked_book : FuncData
  f_asked_book : Fun K "asked_book" "asked_book" s_asked_book a_asked_book d_asked_book
  g_asked_book : mg "asked_book" = some (.ref a_asked_book)
  b_asked_book : Binds K d_asked_book ["book"] []
  a_asked_sight : Addr
  d_asked_sight : FuncData
  f_asked_sight : Fun K "asked_sight" "asked_sight" s_asked_sight a_asked_sight d_asked_sight
  g_asked_sight : mg "asked_sight" = some (.ref a_asked_sight)
  b_asked_sight : Binds K d_asked_sight ["sight"] []
  a_spots : Addr
  d_spots : FuncData
  f_spots : Fun K "spots" "spots" s_spots a_spots d_spots
  g_spots : mg "spots" = some (.ref a_spots)
  b_spots : Binds K d_spots ["book"] []
  a_fitting : Addr
  d_fitting : FuncData
  f_fitting : Fun K "fitting" "fitting" s_fitting a_fitting d_fitting
  g_fitting : mg "fitting" = some (.ref a_fitting)
  b_fitting : Binds K d_fitting ["book", "sight"] []
  a_watch : Addr
  d_watch : FuncData
  f_watch : Fun K "watch" "watch" s_watch a_watch d_watch
  g_watch : mg "watch" = some (.ref a_watch)
  b_watch : Binds K d_watch ["book"] []
  a_twins : Addr
  d_twins : FuncData
  f_twins : Fun K "twins" "twins" s_twins a_twins d_twins
  g_twins : mg "twins" = some (.ref a_twins)
  b_twins : Binds K d_twins ["book"] []
  a_fits : Addr
  d_fits : FuncData
  f_fits : Fun K "fits" "fits" s_fits a_fits d_fits
  g_fits : mg "fits" = some (.ref a_fits)
  b_fits : Binds K d_fits ["book", "sight"] []
  a_sure : Addr
  d_sure : FuncData
  f_sure : Fun K "sure" "sure" s_sure a_sure d_sure
  g_sure : mg "sure" = some (.ref a_sure)
  b_sure : Binds K d_sure ["book", "sight"] []
  a_coming : Addr
  d_coming : FuncData
  f_coming : Fun K "coming" "coming" s_coming a_coming d_coming
  g_coming : mg "coming" = some (.ref a_coming)
  b_coming : Binds K d_coming ["book", "sight"] []
  a_shown : Addr
  d_shown : FuncData
  f_shown : Fun K "shown" "shown" s_shown a_shown d_shown
  g_shown : mg "shown" = some (.ref a_shown)
  b_shown : Binds K d_shown ["book"] []
  a__law_cell_at : Addr
  d__law_cell_at : FuncData
  f__law_cell_at : Fun K "_law_cell_at" "_law_cell_at" s__law_cell_at a__law_cell_at d__law_cell_at
  g__law_cell_at : mg "_law_cell_at" = some (.ref a__law_cell_at)
  b__law_cell_at : Binds K d__law_cell_at ["script", "k"] []
  a__law_word_of : Addr
  d__law_word_of : FuncData
  f__law_word_of : Fun K "_law_word_of" "_law_word_of" s__law_word_of a__law_word_of d__law_word_of
  g__law_word_of : mg "_law_word_of" = some (.ref a__law_word_of)
  b__law_word_of : Binds K d__law_word_of ["e"] []
  a__law_light_by : Addr
  d__law_light_by : FuncData
  f__law_light_by : Fun K "_law_light_by" "_law_light_by" s__law_light_by a__law_light_by d__law_light_by
  g__law_light_by : mg "_law_light_by" = some (.ref a__law_light_by)
  b__law_light_by : Binds K d__law_light_by ["head", "cell"] []
  a__law_book_by : Addr
  d__law_book_by : FuncData
  f__law_book_by : Fun K "_law_book_by" "_law_book_by" s__law_book_by a__law_book_by d__law_book_by
  g__law_book_by : mg "_law_book_by" = some (.ref a__law_book_by)
  b__law_book_by : Binds K d__law_book_by ["script"] []
  a__law_of_lights : Addr
  d__law_of_lights : FuncData
  f__law_of_lights : Fun K "_law_of_lights" "_law_of_lights" s__law_of_lights a__law_of_lights d__law_of_lights
  g__law_of_lights : mg "_law_of_lights" = some (.ref a__law_of_lights)
  b__law_of_lights : Binds K d__law_of_lights ["which", "one", "other", "long"] []
  a__law_of_books : Addr
  d__law_of_books : FuncData
  f__law_of_books : Fun K "_law_of_books" "_law_of_books" s__law_of_books a__law_of_books d__law_of_books
  g__law_of_books : mg "_law_of_books" = some (.ref a__law_of_books)
  b__law_of_books : Binds K d__law_of_books ["which", "book", "sight"] []
  a__law_tried : Addr
  d__law_tried : FuncData
  f__law_tried : Fun K "_law_tried" "_law_tried" s__law_tried a__law_tried d__law_tried
  g__law_tried : mg "_law_tried" = some (.ref a__law_tried)
  b__law_tried : Binds K d__law_tried ["which", "one", "other", "long", "book", "sight"] []
  a__law_bad_light : Addr
  d__law_bad_light : FuncData
  f__law_bad_light : Fun K "_law_bad_light" "_law_bad_light" s__law_bad_light a__law_bad_light d__law_bad_light
  g__law_bad_light : mg "_law_bad_light" = some (.ref a__law_bad_light)
  b__law_bad_light : Binds K d__law_bad_light ["light", "cell"] []
  a__law_spoilt : Addr
  d__law_spoilt : FuncData
  f__law_spoilt : Fun K "_law_spoilt" "_law_spoilt" s__law_spoilt a__law_spoilt d__law_spoilt
  g__law_spoilt : mg "_law_spoilt" = some (.ref a__law_spoilt)
  b__law_spoilt : Binds K d__law_spoilt ["script", "book", "bad"] []
  a__law_due : Addr
  d__law_due : FuncData
  f__law_due : Fun K "_law_due" "_law_due" s__law_due a__law_due d__law_due
  g__law_due : mg "_law_due" = some (.ref a__law_due)
  b__law_due : Binds K d__law_due ["which", "bad"] []
  a_law : Addr
  d_law : FuncData
  f_law : Fun K "law" "law" s_law a_law d_law
  g_law : mg "law" = some (.ref a_law)
  b_law : Binds K d_law ["script"] []
  t_MOST : Tok
  m_MOST : mg "MOST" = some (.int 12 t_MOST)
  t_MOST_SEEN : Tok
  m_MOST_SEEN : mg "MOST_SEEN" = some (.int 100 t_MOST_SEEN)
  t_MOST_LIGHTS : Tok
  m_MOST_LIGHTS : mg "MOST_LIGHTS" = some (.int 5 t_MOST_LIGHTS)
  n_all : mg "all" = none
  n_len : mg "len" = none
  n_range : mg "range" = none
  n_enumerate : mg "enumerate" = none
  n_max : mg "max" = none
  n_isinstance : mg "isinstance" = none
  n_ValueError : mg "ValueError" = none
  n_e : mg "e" = none
  n_list : mg "list" = none
  c_LampError : Addr
  g_LampError : mg "LampError" = some (.ref c_LampError)
  c_NoLight : Addr
  g_NoLight : mg "NoLight" = some (.ref c_NoLight)
  c_NoBook : Addr
  g_NoBook : mg "NoBook" = some (.ref c_NoBook)
  c_NoSight : Addr
  g_NoSight : mg "NoSight" = some (.ref c_NoSight)
  c_NoFit : Addr
  g_NoFit : mg "NoFit" = some (.ref c_NoFit)
  c_TooLong : Addr
  g_TooLong : mg "TooLong" = some (.ref c_TooLong)
  c_NoNote : Addr
  g_NoNote : mg "NoNote" = some (.ref c_NoNote)
  x_NoLight : PySem.W.excIn K c_NoLight [.type "ValueError", .type "Exception", .type "BaseException", .type "object"] "ValueError.__new__" = true
  k_NoLight : PySem.W.keepIn K (.ref c_NoLight) = true
  sb_NoLight : PySem.W.subIn K (.ref c_NoLight) (.type "BaseException") = some true
  ty_NoLight : PySem.W.typeIn K (.ref c_NoLight) = some (.type "type")
  lm_NoLight : PySem.W.exmOne K (.ref c_NoLight) (.ref c_LampError) = some true
  w_NoLight : Word K c_NoLight c_NoBook c_NoSight c_NoFit c_TooLong c_NoNote c_NoLight 0
  x_NoBook : PySem.W.excIn K c_NoBook [.type "ValueError", .type "Exception", .type "BaseException", .type "object"] "ValueError.__new__" = true
  k_NoBook : PySem.W.keepIn K (.ref c_NoBook) = true
  sb_NoBook : PySem.W.subIn K (.ref c_NoBook) (.type "BaseException") = some true
  ty_NoBook : PySem.W.typeIn K (.ref c_NoBook) = some (.type "type")
  lm_NoBook : PySem.W.exmOne K (.ref c_NoBook) (.ref c_LampError) = some true
  w_NoBook : Word K c_NoLight c_NoBook c_NoSight c_NoFit c_TooLong c_NoNote c_NoBook 1
  x_NoSight : PySem.W.excIn K c_NoSight [.type "ValueError", .type "Exception", .type "BaseException", .type "object"] "ValueError.__new__" = true
  k_NoSight : PySem.W.keepIn K (.ref c_NoSight) = true
  sb_NoSight : PySem.W.subIn K (.ref c_NoSight) (.type "BaseException") = some true
  ty_NoSight : PySem.W.typeIn K (.ref c_NoSight) = some (.type "type")
  lm_NoSight : PySem.W.exmOne K (.ref c_NoSight) (.ref c_LampError) = some true
  w_NoSight : Word K c_NoLight c_NoBook c_NoSight c_NoFit c_TooLong c_NoNote c_NoSight 2
  x_TooLong : PySem.W.excIn K c_TooLong [.type "ValueError", .type "Exception", .type "BaseException", .type "object"] "ValueError.__new__" = true
  k_TooLong : PySem.W.keepIn K (.ref c_TooLong) = true
  sb_TooLong : PySem.W.subIn K (.ref c_TooLong) (.type "BaseException") = some true
  ty_TooLong : PySem.W.typeIn K (.ref c_TooLong) = some (.type "type")
  lm_TooLong : PySem.W.exmOne K (.ref c_TooLong) (.ref c_LampError) = some true
  w_TooLong : Word K c_NoLight c_NoBook c_NoSight c_NoFit c_TooLong c_NoNote c_TooLong 4
end Lw
namespace Lw
open PySem PySem.Spec PyProof.Rows L2 TL
local macro_rules | `(tactic| walk_at "rd") => `(tactic| (repeat (first | refine ⟨_, rfl, ?_⟩ | refine ⟨_, _, rfl, rfl, ?_⟩ | refine ⟨rfl, ?_⟩ | refine iteT ?_)))
section
variable {P : Program} {w : World} {K : PySem.W.Frag} {mg : Str → Option Value} {base : Heap}
def sp_is_light (K : PySem.W.Frag) : Sp := fun vs H Q _ => ∃ l, vs = [.str (S l)] ∧ l.length ≤ 1000 ∧ ∀ H', Same H H' → Q (.bl (lightB l)) H'
theorem is_light_all (l : List Nat) : ((List.range l.length).map fun i => isSign (l.getD i 0)).all id = l.all isSign := by
  rw [List.all_map, Bool.eq_iff_iff, List.all_eq_true, List.all_eq_true]
  constructor
  · intro h c hc
    obtain ⟨i, hi, e⟩ := List.getElem_of_mem hc
    have := h i (List.mem_range.mpr hi)
    simpa [hi, e] using this
  · intro h i hi
    have hi' := List.mem_range.mp hi
    have := h l[i] (List.getElem_mem hi')
    simpa [hi'] using this
theorem ok_is_light (T : Txt K mg) : FnOk P w K mg base CX0 1 T.a_is_light T.d_is_light ["text"] (sp_is_light K) := by
  refine T.f_is_light.ok sc_is_light (fun vs H Q E h => ?_) (fun cdv A outer s H vs Q E hr h => ?_)
  · obtain ⟨l, rfl, _⟩ := h
    rfl
  · obtain ⟨l, rfl, hz, q⟩ := h
    refine ⟨_, (pss_one (ps_ret (pe_and (pe_chain op_le op_le pe_int (pe_callB call_lenS (by rfl) T.n_len PySem.boot_len (pa_cons (pv 0) pa_nil)) (pe_glob (v := .int 12) (by rfl) T.m_MOST ⟨_, rfl⟩)) (pe_one (pe_callB (cr_all rfl) (by rfl) T.n_all (by decide +kernel) (pa_cons (pe_lc (own := [("sign", 1)]) (g := gName 1) (by rfl) sc_is_light.nd (pi_str (pv 0)) (blkOk_by (own := [("sign", 1)]) (N := ["text", "sign"]) (sc := defScope s_is_light) (by decide +kernel)) (fun _ _ _ _ _ => (pg_name (i := 1) sc_is_light.nd rfl (by first | exact Or.inl rfl | exact Or.inr rfl))) (fun _ _ _ _ _ => pts_nil) (fun _ _ _ _ _ => (pe_or (pe_cmpR op_eqS (pv 1) (pe_S (l := [111]) (by decide +kernel)) (nomark _)) (pe_one (pe_cmpR op_eqS (pv 1) (pe_S (l := [46]) (by decide +kernel)) (nomark _)))))) pa_nil)))))), ?_⟩
    refine ⟨_, rfl, _, rfl, by omega, _, _, rfl, rfl, _, rfl, ite2 (fun h1 => ?_) (fun h1 => ?_)⟩
    · have h1 := of_decide_eq_true h1
      refine ⟨_, _, rfl, rfl, _, rfl, ite2 (fun h2 => ?_) (fun h2 => ?_)⟩
      · have h2 := of_decide_eq_true h2
        refine ⟨_, rfl, _, rfl, fun D hD => ?_⟩
        refine lc_map walkS (fun _ => true) (fun i => .bl (isSign (l.getD i 0))) (by omega) hD (fun _ _ => trivial) (fun i x H H' y => y.1 ▸ Same.refl _) (fun i x H1 H' hi s1 y k k' hk hk' => ?_) (fun H1 s1 e => ?_)
        · obtain ⟨rfl, c, hc, rfl⟩ := y
          have hk := hk rfl _ (Same.refl _)
          have e : l.getD i 0 = c := by rw [List.getD_eq_getElem?_getD, hc]; rfl
          rw [e] at hk
          refine ⟨rfl, _, rfl, _, _, rfl, rfl, _, rfl, ite2 (fun h => ?_) (fun h => ?_)⟩
          · have h := of_decide_eq_true h
            obtain rfl : c = 111 := by simpa using h
            exact hk
          · refine ⟨_, rfl, _, _, rfl, rfl, ?_⟩
            have e2 : isSign c = decide ([c] = [46]) := by
              have h : ¬ c = 111 := fun z => h (by rw [z]; rfl)
              by_cases h3 : c = 46
              · subst h3; rfl
              · simp [isSign, h, h3]
            rw [← e2]
            exact hk
        · rw [given_all] at e
          refine ⟨D, (List.range l.length).map fun i => isSign (l.getD i 0), rfl, ?_, ?_⟩
          · refine SqL.of ?_
            rw [e, List.map_map]
            rfl
          · rw [is_light_all]
            have := q H1 s1
            unfold lightB at this
            rw [decide_eq_true (show 1 ≤ l.length by omega), decide_eq_true (show l.length ≤ 12 by omega)] at this
            exact this
      · have h2 : ¬ l.length ≤ 12 := fun z => h2 (decide_eq_true (by omega))
        have := q H (Same.refl H)
        unfold lightB at this
        rw [decide_eq_false h2, Bool.and_false, Bool.false_and] at this
        exact this
    · have h1 : ¬ 1 ≤ l.length := fun z => h1 (decide_eq_true (by omega))
      have := q H (Same.refl H)
      unfold lightB at this
      rw [decide_eq_false h1, Bool.false_and, Bool.false_and] at this
      exact ⟨_, rfl, iteF this⟩

end
end Lw
namespace Lw
open PySem PySem.Spec PyProof.Rows L2 TL
local macro_rules | `(tactic| walk_at "rd") => `(tactic| (repeat (first | refine ⟨_, rfl, ?_⟩ | refine ⟨_, _, rfl, rfl, ?_⟩ | refine ⟨rfl, ?_⟩ | refine iteT ?_)))
section
variable {P : Program} {w : World} {K : PySem.W.Frag} {mg : Str → Option Value} {base : Heap}
def sp_asked_light (K : PySem.W.Frag) : Sp := fun vs H Q _ => ∃ l, vs = [.str (S l)] ∧ Good l ∧ ∀ H', Same H H' → Q .non H'
def sx_asked_light (K : PySem.W.Frag) (T : Txt K mg) : Sp := fun vs H Q E => sp_asked_light K vs H Q E ∨ (∃ l, vs = [.str (S l)] ∧ l.length ≤ 1000 ∧ ¬ Good l ∧ ∀ H', Same H H' → E (.ref T.c_NoLight) none H')
theorem okx_asked_light (T : Txt K mg) : FnOk P w K mg base (L2N.CX P w) 2 T.a_asked_light T.d_asked_light ["text"] (sx_asked_light K T) := by
  refine okN T.f_asked_light sc_asked_light (fun vs H Q E h => ?_) (fun cdv A outer s H vs Q E hr h => ?_)
  · rcases h with h | h
    · obtain ⟨l, rfl, _⟩ := h
      rfl
    · obtain ⟨l, rfl, _⟩ := h
      rfl
  · refine ⟨_, (pss_one (ps_if (pt_not (pt_val (pe_call (ok_is_light T) (hr.mono (by decide)) (by rfl) T.g_is_light T.f_is_light.kp T.b_is_light .nil pass0 (pa_cons (pv 0) pa_nil)))) (pss_one (L2N.ps_raise rfl (L2N.takes_of rfl rfl rfl rfl) (L2N.pmk_own PySem.F.excBase_ValueError T.x_NoLight T.g_NoLight T.k_NoLight (raises_own T.sb_NoLight T.ty_NoLight) rfl))) pss_nil)), ?_⟩
    rcases h with h | h
    · obtain ⟨l, rfl, hg, q⟩ := h
      refine ⟨_, rfl, l, rfl, by have := hg.2.1; omega, fun H1 s1 => ⟨_, rfl, ?_⟩⟩
      rw [lightB_iff.mpr hg]
      exact q H1 s1
    · obtain ⟨l, rfl, hz, hn, e⟩ := h
      refine ⟨_, rfl, l, rfl, hz, fun H1 s1 => ⟨_, rfl, ?_⟩⟩
      have hb : lightB l = false := by
        cases z : lightB l with
        | false => rfl
        | true => exact absurd (lightB_iff.mp z) hn
      rw [hb]
      exact e H1 s1

end
end Lw
namespace Lw
open PySem PySem.Spec PyProof.Rows L2 TL
local macro_rules | `(tactic| walk_at "rd") => `(tactic| (repeat (first | refine ⟨_, rfl, ?_⟩ | refine ⟨_, _, rfl, rfl, ?_⟩ | refine ⟨rfl, ?_⟩ | refine iteT ?_)))
section
variable {P : Program} {w : World} {K : PySem.W.Frag} {mg : Str → Option Value} {base : Heap}
def sp_showing (K : PySem.W.Frag) : Sp := fun vs H Q _ => ∃ l m i, vs = [.str (S l), .int m, .int i] ∧ 1 ≤ l.length ∧ l.length ≤ 1000 ∧ 0 ≤ i ∧ i ≤ 1000 ∧ ∀ H', Same H H' → Q (.str (S (sight l m i.toNat))) H'
theorem ok_showing (T : Txt K mg) : FnOk P w K mg base CX0 1 T.a_showing T.d_showing ["light", "moment", "long"] (sp_showing K) := by
  refine T.f_showing.ok sc_showing (fun vs H Q E h => ?_) (fun cdv A outer s H vs Q E hr h => ?_)
  · obtain ⟨l, m, i, rfl, _⟩ := h
    rfl
  · obtain ⟨l, m, n, rfl, h1, hz, h0, hn, q⟩ := h
    refine ⟨_, (pss_one (ps_ret (pe_joinS (pe_S (l := []) (by decide +kernel)) (pe_lc (own := [("k", 3)]) (g := gName 3) (by rfl) sc_showing.nd (pi_range1 (by rfl) T.n_range (pa_cons (pv 2) pa_nil)) (blkOk_by (own := [("k", 3)]) (N := ["light", "moment", "long", "k"]) (sc := defScope s_showing) (by decide +kernel)) (fun _ _ _ _ _ => (pg_name (i := 3) sc_showing.nd rfl (by first | exact Or.inl rfl | exact Or.inr rfl))) (fun _ _ _ _ _ => pts_nil) (fun _ _ _ _ _ => (pe_ix ix_S (pv 0) (pe_op op_mod (pe_op op_add (pv 1) (pv 3)) (pe_callB call_lenS (by rfl) T.n_len PySem.boot_len (pa_cons (pv 0) pa_nil))) (fun _ _ => rfl))))))), ?_⟩
    refine ⟨⟨_, rfl⟩, _, rfl, _, rfl, by omega, by omega, fun D hD => ?_⟩
    refine lc_map walkR (fun _ => true) (fun k => .str (S [sg l (m + (k : Nat))])) (by omega) hD (fun _ _ => trivial) (fun i x H H' y => y.1 ▸ Same.refl _) (fun i x H1 H' hi s1 y k k' hk hk' => ?_) (fun H1 s1 e => ?_)
    · obtain ⟨rfl, rfl⟩ := y
      have hk := hk rfl _ (Same.refl _)
      refine ⟨rfl, _, rfl, _, rfl, _, rfl, _, _, rfl, rfl, _, rfl, _, rfl, by omega, _, _, rfl, rfl, by omega, l, _, _, rfl, rfl, by omega, atI_mod h1 _, hk⟩
    · rw [given_all] at e
      refine ⟨[], D, (List.range n.toNat).map fun k => [sg l (m + (k : Nat))], rfl, rfl, ?_, ?_, ?_⟩
      · refine SqL.of ?_
        rw [e, tx, List.map_map]
        rfl
      · rw [sum_ones, List.length_map, List.length_range]
        show n.toNat + n.toNat * 0 ≤ 100000
        omega
      · rw [joinL_nil, flat_ones]
        exact q H1 s1

end
end Lw
namespace Lw
open PySem PySem.Spec PyProof.Rows L2 TL
local macro_rules | `(tactic| walk_at "rd") => `(tactic| (repeat (first | refine ⟨_, rfl, ?_⟩ | refine ⟨_, _, rfl, rfl, ?_⟩ | refine ⟨rfl, ?_⟩ | refine iteT ?_)))
section
variable {P : Program} {w : World} {K : PySem.W.Frag} {mg : Str → Option Value} {base : Heap}
def sp_seen (K : PySem.W.Frag) : Sp := fun vs H Q _ => ∃ l m i, vs = [.str (S l), .int m, .int i] ∧ Good l ∧ 0 ≤ i ∧ i ≤ 100 ∧ ∀ H', Same H H' → Q (.str (S (sight l m i.toNat))) H'
def sx_seen (K : PySem.W.Frag) (T : Txt K mg) : Sp := fun vs H Q E => sp_seen K vs H Q E ∨ (∃ l m i, vs = [.str (S l), .int m, .int i] ∧ l.length ≤ 1000 ∧ ((¬ Good l ∧ ∀ H', Same H H' → E (.ref T.c_NoLight) none H') ∨ (Good l ∧ (i < 0 ∨ 100 < i) ∧ ∀ H', Same H H' → E (.ref T.c_NoSight) none H')))
theorem okx_seen (T : Txt K mg) : FnOk P w K mg base (L2N.CX P w) 3 T.a_seen T.d_seen ["light", "moment", "long"] (sx_seen K T) := by
  refine okN T.f_seen sc_seen (fun vs H Q E h => ?_) (fun cdv A outer s H vs Q E hr h => ?_)
  · rcases h with h | h
    · obtain ⟨l, m, i, rfl, _⟩ := h
      rfl
    · obtain ⟨l, m, i, rfl, _⟩ := h
      rfl
  · refine ⟨_, (pss_cons (ps_expr (pe_call (okx_asked_light T) (hr.mono (by decide)) (by rfl) T.g_asked_light T.f_asked_light.kp T.b_asked_light .nil (L2N.passes_call (L2N.takes_of rfl rfl rfl rfl) fun _ _ _ _ h => h) (pa_cons (pv 0) pa_nil)))
      (pss_cons (ps_if (PW.pt (pw_or (pt_cmpR op_lt (pv 2) pe_int (nomark _)) (pw_or1 (pt_cmpR op_gt (pv 2) (pe_glob (v := .int 100) (by rfl) T.m_MOST_SEEN ⟨_, rfl⟩) (nomark _))))) (pss_one (L2N.ps_raise rfl (L2N.takes_of rfl rfl rfl rfl) (L2N.pmk_own PySem.F.excBase_ValueError T.x_NoSight T.g_NoSight T.k_NoSight (raises_own T.sb_NoSight T.ty_NoSight) rfl))) pss_nil)
      (pss_one (ps_ret (pe_call (ok_showing T) (hr.mono (by decide)) (by rfl) T.g_showing T.f_showing.kp T.b_showing .nil pass0 (pa_cons (pv 0) (pa_cons (pv 1) (pa_cons (pv 2) pa_nil)))))))), ?_⟩
    rcases h with h | h
    · obtain ⟨l, m, n, rfl, hg, h0, hn, q⟩ := h
      refine ⟨_, rfl, .inl ⟨l, rfl, hg, fun H1 s1 => ?_⟩⟩
      refine ⟨_, rfl, _, _, rfl, rfl, _, rfl, ite2 (fun h => ?_) (fun h => ?_)⟩
      · have h := of_decide_eq_true h
        omega
      · refine ⟨_, rfl, _, _, rfl, rfl, _, rfl, ite2 (fun h => ?_) (fun h => ?_)⟩
        · have h := of_decide_eq_true h
          omega
        · have := hg.1
          have := hg.2.1
          exact ⟨_, rfl, _, rfl, _, rfl, l, m, n, rfl, by omega, by omega, by omega, by omega, fun H2 s2 => q H2 (s1.trans s2)⟩
    · obtain ⟨l, m, n, rfl, hz, h⟩ := h
      rcases h with ⟨hn, e⟩ | ⟨hg, hn, e⟩
      · exact ⟨_, rfl, .inr ⟨l, rfl, hz, hn, e⟩⟩
      · refine ⟨_, rfl, .inl ⟨l, rfl, hg, fun H1 s1 => ?_⟩⟩
        refine ⟨_, rfl, _, _, rfl, rfl, _, rfl, ite2 (fun h => ?_) (fun h => ?_)⟩
        · exact e H1 s1
        · have h : ¬ n < 0 := fun z => h (decide_eq_true z)
          refine ⟨_, rfl, _, _, rfl, rfl, _, rfl, ?_⟩
          rw [decide_eq_true (show (100 : Int) < n by omega)]
          exact e H1 s1

end
end Lw
namespace Lw
open PySem PySem.Spec PyProof.Rows L2 TL
local macro_rules | `(tactic| walk_at "rd") => `(tactic| (repeat (first | refine ⟨_, rfl, ?_⟩ | refine ⟨_, _, rfl, rfl, ?_⟩ | refine ⟨rfl, ?_⟩ | refine iteT ?_)))
section
variable {P : Program} {w : World} {K : PySem.W.Frag} {mg : Str → Option Value} {base : Heap}
def sp_shortest_of (K : PySem.W.Frag) : Sp := fun vs H Q _ => ∃ l, vs = [.str (S l)] ∧ 1 ≤ l.length ∧ l.length ≤ 1000 ∧ ∀ H', Same H H' → Q (.str (S (shortest l))) H'
theorem ok_shortest_of (T : Txt K mg) : FnOk P w K mg base CX0 2 T.a_shortest_of T.d_shortest_of ["row"] (sp_shortest_of K) := by
  refine T.f_shortest_of.ok sc_shortest_of (fun vs H Q E h => ?_) (fun cdv A outer s H vs Q E hr h => ?_)
  · obtain ⟨l, rfl, _⟩ := h
    rfl
  · obtain ⟨l, rfl, h1, hz, q⟩ := h
    refine ⟨_, (pss_cons (ps_for PassesOwn.never rfl (pi_range2 (by rfl) T.n_range (pa_cons pe_int (pa_cons (pe_callB call_lenS (by rfl) T.n_len PySem.boot_len (pa_cons (pv 0) pa_nil)) pa_nil))) (pg_name (i := 1) sc_shortest_of.nd rfl (by first | exact Or.inl rfl | exact Or.inr rfl))
      (pss_one (ps_if (PW.pt (pw_and (pt_cmpR op_eqI (pe_op op_mod (pe_callB call_lenS (by rfl) T.n_len PySem.boot_len (pa_cons (pv 0) pa_nil)) (pv 1)) pe_int (nomark _)) (pw_and1 (pt_cmpR op_eqS (pe_call (ok_showing T) (hr.mono (by decide)) (by rfl) T.g_showing T.f_showing.kp T.b_showing .nil pass0 (pa_cons (pe_slice sl_S (pv 0) po_none (po_some (pv 1))) (pa_cons pe_int (pa_cons (pe_callB call_lenS (by rfl) T.n_len PySem.boot_len (pa_cons (pv 0) pa_nil)) pa_nil)))) (pv 0) (nomark _))))) (pss_one (ps_ret (pe_slice sl_S (pv 0) po_none (po_some (pv 1))))) pss_nil)))
      (pss_one (ps_ret (pv 0)))), ?_⟩
    refine ⟨_, rfl, l, rfl, by omega, _, _, rfl, ⟨by omega, by omega, by omega, by omega⟩, ?_⟩
    refine for_it walk_range (fun i σ H1 => ∃ y, σ = [some (.str (S l)), y] ∧ (∀ j, 1 ≤ j → j < i + 1 → perB l j = false) ∧ Same H H1) ⟨_, rfl, fun j _ _ => by omega, Same.refl _⟩ (fun _ _ _ _ _ => trivial) (fun i x σ H1 H2 hi hp y => ?_) (fun σ H1 hp => ?_)
    · obtain ⟨y1, rfl, hn, s1⟩ := hp
      obtain ⟨rfl, rfl⟩ := y
      have next : perB l (i + 1) = false → ∀ j, 1 ≤ j → j < i + 1 + 1 → perB l j = false := fun h j hj hlt => by
        by_cases e : j = i + 1
        · rw [e]; exact h
        · exact hn j hj (by omega)
      have hm : ((l.length : Int) % (1 + (i : Int)) = 0) ↔ l.length % (i + 1) = 0 := by
        rw [show (1 + (i : Int)) = ((i + 1 : Nat) : Int) by omega, ← Int.natCast_emod]
        omega
      refine ⟨_, rfl, l, rfl, by omega, _, rfl, _, _, rfl, rfl, (by show (0 : Int) < 1 + (i : Int); omega), _, _, rfl, rfl, _, rfl, ite2 (fun h => ?_) (fun h => ?_)⟩
      · have h := hm.mp (of_decide_eq_true h)
        have hcl := cutL_to1 l i
        have hv := Nat.dvd_of_mod_eq_zero h
        have hle : i + 1 ≤ l.length := Nat.le_of_dvd (by omega) hv
        have hl2 : (cutL l none (some (1 + (i : Int)))).length = i + 1 := by rw [hcl, List.length_take]; omega
        refine ⟨_, rfl, _, rfl, _, rfl, l, rfl, by omega, _, rfl, l, rfl, by omega, _, _, _, rfl, by rw [hl2]; omega, by rw [hl2]; omega, by omega, by omega, fun H3 s3 => ⟨_, rfl, _, _, rfl, rfl, _, rfl, ite2 (fun h' => ?_) (fun h' => ?_)⟩⟩
        · have h' := of_decide_eq_true h'
          rw [hcl, Int.toNat_natCast] at h'
          have hp : perB l (i + 1) = true := by
            unfold perB
            rw [decide_eq_true h, decide_eq_true h']
            rfl
          have hm := measure_of h1 (by omega) hp hn
          refine ⟨_, rfl, _, rfl, _, rfl, l, rfl, by omega, ?_⟩
          rw [hcl, ← hm]
          exact q H3 (s1.trans s3)
        · have h' : ¬ sight (l.take (i + 1)) 0 l.length = l := fun z => h' (decide_eq_true (by rw [hcl, Int.toNat_natCast]; exact z))
          refine ⟨_, rfl, next ?_, s1.trans s3⟩
          unfold perB
          rw [decide_eq_false h', Bool.and_false]
      · have h : ¬ l.length % (i + 1) = 0 := fun z => h (decide_eq_true (hm.mpr z))
        refine ⟨_, rfl, next ?_, s1⟩
        unfold perB
        rw [decide_eq_false h, Bool.false_and]
    · obtain ⟨y1, rfl, hn, s1⟩ := hp
      refine ⟨_, rfl, ?_⟩
      have hm := measure_of h1 h1 (perB_len h1) (fun j hj hlt => hn j hj (by omega))
      have := q H1 s1
      unfold shortest at this
      rw [hm, List.take_length] at this
      exact this

end
end Lw
namespace Lw
open PySem PySem.Spec PyProof.Rows L2 TL
local macro_rules | `(tactic| walk_at "rd") => `(tactic| (repeat (first | refine ⟨_, rfl, ?_⟩ | refine ⟨_, _, rfl, rfl, ?_⟩ | refine ⟨rfl, ?_⟩ | refine iteT ?_)))
section
variable {P : Program} {w : World} {K : PySem.W.Frag} {mg : Str → Option Value} {base : Heap}
def sp_shortest (K : PySem.W.Frag) : Sp := fun vs H Q _ => ∃ l, vs = [.str (S l)] ∧ Good l ∧ ∀ H', Same H H' → Q (.str (S (shortest l))) H'
def sx_shortest (K : PySem.W.Frag) (T : Txt K mg) : Sp := fun vs H Q E => sp_shortest K vs H Q E ∨ (∃ l, vs = [.str (S l)] ∧ l.length ≤ 1000 ∧ ¬ Good l ∧ ∀ H', Same H H' → E (.ref T.c_NoLight) none H')
theorem okx_shortest (T : Txt K mg) : FnOk P w K mg base (L2N.CX P w) 3 T.a_shortest T.d_shortest ["light"] (sx_shortest K T) := by
  refine okN T.f_shortest sc_shortest (fun vs H Q E h => ?_) (fun cdv A outer s H vs Q E hr h => ?_)
  · rcases h with h | h
    · obtain ⟨l, rfl, _⟩ := h
      rfl
    · obtain ⟨l, rfl, _⟩ := h
      rfl
  · refine ⟨_, (pss_cons (ps_expr (pe_call (okx_asked_light T) (hr.mono (by decide)) (by rfl) T.g_asked_light T.f_asked_light.kp T.b_asked_light .nil (L2N.passes_call (L2N.takes_of rfl rfl rfl rfl) fun _ _ _ _ h => h) (pa_cons (pv 0) pa_nil)))
      (pss_one (ps_ret (pe_call (ok_shortest_of T) (hr.mono (by decide)) (by rfl) T.g_shortest_of T.f_shortest_of.kp T.b_shortest_of .nil pass0 (pa_cons (pv 0) pa_nil))))), ?_⟩
    rcases h with h | h
    · obtain ⟨l, rfl, hg, q⟩ := h
      have h2 := hg.2.1
      exact ⟨_, rfl, .inl ⟨l, rfl, hg, fun H1 s1 => ⟨_, rfl, l, rfl, hg.1, by omega, fun H2 s2 => q H2 (s1.trans s2)⟩⟩⟩
    · obtain ⟨l, rfl, hz, hn, e⟩ := h
      exact ⟨_, rfl, .inr ⟨l, rfl, hz, hn, e⟩⟩

end
end Lw
namespace Lw
open PySem PySem.Spec PyProof.Rows L2 TL
local macro_rules | `(tactic| walk_at "rd") => `(tactic| (repeat (first | refine ⟨_, rfl, ?_⟩ | refine ⟨_, _, rfl, rfl, ?_⟩ | refine ⟨rfl, ?_⟩ | refine iteT ?_)))
section
variable {P : Program} {w : World} {K : PySem.W.Frag} {mg : Str → Option Value} {base : Heap}
def sp_turn (K : PySem.W.Frag) : Sp := fun vs H Q _ => ∃ a b, vs = [.str (S a), .str (S b)] ∧ Good a ∧ Good b ∧ ∀ H', Same H H' → Q (optV (turnV a b)) H'
def sx_turn (K : PySem.W.Frag) (T : Txt K mg) : Sp := fun vs H Q E => sp_turn K vs H Q E ∨ (∃ a  b , vs = [.str (S a), .str (S b)] ∧ a.length ≤ 1000 ∧ b.length ≤ 1000 ∧ (¬ Good a ∨ (Good a ∧ ¬ Good b)) ∧ ∀ H', Same H H' → E (.ref T.c_NoLight) none H')
theorem okx_turn (T : Txt K mg) : FnOk P w K mg base (L2N.CX P w) 3 T.a_turn T.d_turn ["one", "other"] (sx_turn K T) := by
  refine okN T.f_turn sc_turn (fun vs H Q E h => ?_) (fun cdv A outer s H vs Q E hr h => ?_)
  · rcases h with h | h
    · obtain ⟨a, b, rfl, _⟩ := h
      rfl
    · obtain ⟨a, b, rfl, _⟩ := h
      rfl
  · refine ⟨_, (pss_cons (ps_expr (pe_call (okx_asked_light T) (hr.mono (by decide)) (by rfl) T.g_asked_light T.f_asked_light.kp T.b_asked_light .nil (L2N.passes_call (L2N.takes_of rfl rfl rfl rfl) fun _ _ _ _ h => h) (pa_cons (pv 0) pa_nil)))
      (pss_cons (ps_expr (pe_call (okx_asked_light T) (hr.mono (by decide)) (by rfl) T.g_asked_light T.f_asked_light.kp T.b_asked_light .nil (L2N.passes_call (L2N.takes_of rfl rfl rfl rfl) fun _ _ _ _ h => h) (pa_cons (pv 1) pa_nil)))
      (pss_cons (ps_set (i := 2) sc_turn.nd rfl (by first | exact Or.inl rfl | exact Or.inr rfl) (pe_call (ok_shortest_of T) (hr.mono (by decide)) (by rfl) T.g_shortest_of T.f_shortest_of.kp T.b_shortest_of .nil pass0 (pa_cons (pv 0) pa_nil)))
      (pss_cons (ps_set (i := 3) sc_turn.nd rfl (by first | exact Or.inl rfl | exact Or.inr rfl) (pe_call (ok_shortest_of T) (hr.mono (by decide)) (by rfl) T.g_shortest_of T.f_shortest_of.kp T.b_shortest_of .nil pass0 (pa_cons (pv 1) pa_nil)))
      (pss_cons (ps_if (pt_cmpR op_eqI (pe_callB call_lenS (by rfl) T.n_len PySem.boot_len (pa_cons (pv 2) pa_nil)) (pe_callB call_lenS (by rfl) T.n_len PySem.boot_len (pa_cons (pv 3) pa_nil)) (nomark _)) (pss_one (ps_for (passes_of rfl) rfl (pi_range1 (by rfl) T.n_range (pa_cons (pe_callB call_lenS (by rfl) T.n_len PySem.boot_len (pa_cons (pv 2) pa_nil)) pa_nil)) (pg_name (i := 4) sc_turn.nd rfl (by first | exact Or.inl rfl | exact Or.inr rfl))
      (pss_one (ps_if (pt_cmpR op_eqS (pe_call (ok_showing T) (hr.mono (by decide)) (by rfl) T.g_showing T.f_showing.kp T.b_showing .nil pass0 (pa_cons (pv 2) (pa_cons (pv 4) (pa_cons (pe_callB call_lenS (by rfl) T.n_len PySem.boot_len (pa_cons (pv 2) pa_nil)) pa_nil)))) (pv 3) (nomark _)) (pss_one (ps_ret (pv 4))) pss_nil)))) pss_nil)
      (pss_one (ps_ret pe_non))))))), ?_⟩
    rcases h with h | h
    · obtain ⟨a, b, rfl, ga, gb, q⟩ := h
      have a1 := ga.1; have a2 := ga.2.1; have b1 := gb.1; have b2 := gb.2.1
      have ma := measure_le a1; have mb := measure_le b1; have pa := measure_pos a1; have pb := measure_pos b1
      have la := shortest_len a1; have lb := shortest_len b1
      refine ⟨_, rfl, .inl ⟨a, rfl, ga, fun H1 s1 => ⟨_, rfl, .inl ⟨b, rfl, gb, fun H2 s2 => ⟨_, rfl, a, rfl, a1, by omega, fun H3 s3 => ⟨_, rfl, b, rfl, b1, by omega, fun H4 s4 => ?_⟩⟩⟩⟩⟩⟩
      have s04 : Same H H4 := ((s1.trans s2).trans s3).trans s4
      refine ⟨_, rfl, _, rfl, by omega, _, rfl, _, rfl, by omega, _, _, rfl, rfl, _, rfl, ite2 (fun h => ?_) (fun h => ?_)⟩
      · have h := of_decide_eq_true h
        have e : measure a = measure b := by omega
        refine ⟨_, rfl, _, rfl, by omega, _, rfl, by omega, by omega, ?_⟩
        refine for_it walkR (fun i σ H1 => ∃ y, σ = [some (.str (S a)), some (.str (S b)), some (.str (S (shortest a))), some (.str (S (shortest b))), y] ∧ (∀ j, j < i → (fun m : Nat => decide (sight (shortest a) (m : Int) (measure a) = shortest b)) j = false) ∧ Same H H1) ⟨_, rfl, fun j hj => absurd hj (Nat.not_lt_zero _), s04⟩ (fun _ _ _ _ _ => trivial) (fun i x σ H1 H2 hi hp y => ?_) (fun σ H1 hp => ?_)
        · obtain ⟨y4, rfl, hn, s5⟩ := hp
          obtain ⟨rfl, rfl⟩ := y
          refine ⟨_, rfl, _, rfl, _, rfl, _, rfl, by omega, _, _, _, rfl, by omega, by omega, by omega, by omega, fun H6 s6 => ⟨_, rfl, _, _, rfl, rfl, _, rfl, ?_⟩⟩
          rw [Int.toNat_natCast] at hi ⊢
          rw [la] at hi ⊢
          refine ite2 (fun h' => ?_) (fun h' => ?_)
          · have ht : turnV a b = some i := by
              unfold turnV
              rw [if_pos e, findN_some]
              exact ⟨hi, h', hn⟩
            have := q H6 (s5.trans s6)
            rw [ht] at this
            exact ⟨_, rfl, this⟩
          · refine ⟨_, rfl, fun j hj => ?_, s5.trans s6⟩
            by_cases ej : j = i
            · rw [ej]; exact Bool.eq_false_iff.mpr h'
            · exact hn j (by omega)
        · obtain ⟨y4, rfl, hn, s5⟩ := hp
          rw [Int.toNat_natCast, la] at hn
          have ht : turnV a b = none := by
            unfold turnV
            rw [if_pos e, findN_none]
            exact hn
          have := q _ s5
          rw [ht] at this
          exact this
      · have e : ¬ measure a = measure b := fun z => h (decide_eq_true (by omega))
        have ht : turnV a b = none := by
          unfold turnV
          rw [if_neg e]
        have := q _ s04
        rw [ht] at this
        exact this
    · obtain ⟨a,  b,  rfl, za, zb, hn, e⟩ := h
      rcases hn with hn | ⟨ga, hn⟩
      · exact ⟨_, rfl, .inr ⟨a, rfl, za, hn, e⟩⟩
      · exact ⟨_, rfl, .inl ⟨a, rfl, ga, fun H1 s1 => ⟨_, rfl, .inr ⟨b, rfl, zb, hn, fun H2 s2 => e H2 (s1.trans s2)⟩⟩⟩⟩

end
end Lw
namespace Lw
open PySem PySem.Spec PyProof.Rows L2 TL
local macro_rules | `(tactic| walk_at "rd") => `(tactic| (repeat (first | refine ⟨_, rfl, ?_⟩ | refine ⟨_, _, rfl, rfl, ?_⟩ | refine ⟨rfl, ?_⟩ | refine iteT ?_)))
section
variable {P : Program} {w : World} {K : PySem.W.Frag} {mg : Str → Option Value} {base : Heap}
def sp_parting (K : PySem.W.Frag) : Sp := fun vs H Q _ => ∃ a m b m', vs = [.str (S a), .int m, .str (S b), .int m'] ∧ Good a ∧ Good b ∧ ∀ H', Same H H' → Q (optV (partV a m b m')) H'
def sx_parting (K : PySem.W.Frag) (T : Txt K mg) : Sp := fun vs H Q E => sp_parting K vs H Q E ∨ (∃ a m b m', vs = [.str (S a), .int m, .str (S b), .int m'] ∧ a.length ≤ 1000 ∧ b.length ≤ 1000 ∧ (¬ Good a ∨ (Good a ∧ ¬ Good b)) ∧ ∀ H', Same H H' → E (.ref T.c_NoLight) none H')
theorem okx_parting (T : Txt K mg) : FnOk P w K mg base (L2N.CX P w) 3 T.a_parting T.d_parting ["one", "moment", "other", "other_moment"] (sx_parting K T) := by
  refine okN T.f_parting sc_parting (fun vs H Q E h => ?_) (fun cdv A outer s H vs Q E hr h => ?_)
  · rcases h with h | h
    · obtain ⟨a, m, b, m', rfl, _⟩ := h
      rfl
    · obtain ⟨a, m, b, m', rfl, _⟩ := h
      rfl
  · refine ⟨_, (pss_cons (ps_expr (pe_call (okx_asked_light T) (hr.mono (by decide)) (by rfl) T.g_asked_light T.f_asked_light.kp T.b_asked_light .nil (L2N.passes_call (L2N.takes_of rfl rfl rfl rfl) fun _ _ _ _ h => h) (pa_cons (pv 0) pa_nil)))
      (pss_cons (ps_expr (pe_call (okx_asked_light T) (hr.mono (by decide)) (by rfl) T.g_asked_light T.f_asked_light.kp T.b_asked_light .nil (L2N.passes_call (L2N.takes_of rfl rfl rfl rfl) fun _ _ _ _ h => h) (pa_cons (pv 2) pa_nil)))
      (pss_cons (ps_for (passes_of rfl) rfl (pi_range1 (by rfl) T.n_range (pa_cons (pe_op op_add (pe_callB call_lenS (by rfl) T.n_len PySem.boot_len (pa_cons (pv 0) pa_nil)) (pe_callB call_lenS (by rfl) T.n_len PySem.boot_len (pa_cons (pv 2) pa_nil))) pa_nil)) (pg_name (i := 4) sc_parting.nd rfl (by first | exact Or.inl rfl | exact Or.inr rfl))
      (pss_one (ps_if (pt_cmpR op_neS (pe_ix ix_S (pv 0) (pe_op op_mod (pe_op op_add (pv 1) (pv 4)) (pe_callB call_lenS (by rfl) T.n_len PySem.boot_len (pa_cons (pv 0) pa_nil))) (fun _ _ => rfl)) (pe_ix ix_S (pv 2) (pe_op op_mod (pe_op op_add (pv 3) (pv 4)) (pe_callB call_lenS (by rfl) T.n_len PySem.boot_len (pa_cons (pv 2) pa_nil))) (fun _ _ => rfl)) (nomark _)) (pss_one (ps_ret (pe_op op_add (pv 4) pe_int))) pss_nil)))
      (pss_one (ps_ret pe_non))))), ?_⟩
    rcases h with h | h
    · obtain ⟨a, m, b, m', rfl, ga, gb, q⟩ := h
      have a1 := ga.1; have a2 := ga.2.1; have b1 := gb.1; have b2 := gb.2.1
      refine ⟨_, rfl, .inl ⟨a, rfl, ga, fun H1 s1 => ⟨_, rfl, .inl ⟨b, rfl, gb, fun H2 s2 => ?_⟩⟩⟩⟩
      refine ⟨_, rfl, _, rfl, by omega, _, rfl, _, rfl, by omega, _, _, rfl, rfl, _, rfl, by omega, by omega, ?_⟩
      have hn : ((a.length : Int) + (b.length : Int)).toNat = a.length + b.length := by omega
      refine for_it walkR (fun i σ H1 => ∃ y, σ = [some (.str (S a)), some (.int m), some (.str (S b)), some (.int m'), y] ∧ (∀ j, j < i → diff a m b m' j = false) ∧ Same H H1) ⟨_, rfl, fun j hj => absurd hj (Nat.not_lt_zero _), s1.trans s2⟩ (fun _ _ _ _ _ => trivial) (fun i x σ H1 H2 hi hp y => ?_) (fun σ H1 hp => ?_)
      · obtain ⟨y4, rfl, hf, s5⟩ := hp
        obtain ⟨rfl, rfl⟩ := y
        refine ⟨_, rfl, _, rfl, _, rfl, _, _, rfl, rfl, _, rfl, _, rfl, by omega, _, _, rfl, rfl, by show (0 : Int) < a.length; omega, a, _, _, rfl, rfl, by omega, atI_mod a1 _, ?_⟩
        refine ⟨_, rfl, _, rfl, _, rfl, _, _, rfl, rfl, _, rfl, _, rfl, by omega, _, _, rfl, rfl, by show (0 : Int) < b.length; omega, b, _, _, rfl, rfl, by omega, atI_mod b1 _, ?_⟩
        refine ⟨_, _, rfl, rfl, _, rfl, ?_⟩
        rw [ne_one]
        refine ite2 (fun h => ?_) (fun h => ?_)
        · have hp : partV a m b m' = some (i + 1) := by
            unfold partV
            rw [findN_some.mpr ⟨by omega, h, hf⟩]
            rfl
          have := q _ s5
          rw [hp] at this
          exact ⟨_, rfl, _, _, rfl, rfl, this⟩
        · refine ⟨_, rfl, fun j hj => ?_, s5⟩
          by_cases ej : j = i
          · rw [ej]; exact Bool.eq_false_iff.mpr h
          · exact hf j (by omega)
      · obtain ⟨y4, rfl, hf, s5⟩ := hp
        rw [hn] at hf
        have hp : partV a m b m' = none := by
          unfold partV
          rw [findN_none.mpr hf]
          rfl
        have := q _ s5
        rw [hp] at this
        exact this
    · obtain ⟨a, m, b, m', rfl, za, zb, hn, e⟩ := h
      rcases hn with hn | ⟨ga, hn⟩
      · exact ⟨_, rfl, .inr ⟨a, rfl, za, hn, e⟩⟩
      · exact ⟨_, rfl, .inl ⟨a, rfl, ga, fun H1 s1 => ⟨_, rfl, .inr ⟨b, rfl, zb, hn, fun H2 s2 => e H2 (s1.trans s2)⟩⟩⟩⟩

end
end Lw
namespace Lw
open PySem PySem.Spec PyProof.Rows L2 TL
local macro_rules | `(tactic| walk_at "rd") => `(tactic| (repeat (first | refine ⟨_, rfl, ?_⟩ | refine ⟨_, _, rfl, rfl, ?_⟩ | refine ⟨rfl, ?_⟩ | refine iteT ?_)))
section
variable {P : Program} {w : World} {K : PySem.W.Frag} {mg : Str → Option Value} {base : Heap}
def sp_both (K : PySem.W.Frag) (C : Addr) : Sp := fun vs H Q E => ∃ a b, vs = [.str (S a), .str (S b)] ∧ Good a ∧ Good b ∧ (bothL a b ≤ 12 → ∀ H', Same H H' → Q (.str (S (rowV a b (bothL a b)))) H') ∧ (12 < bothL a b → ∀ H', Same H H' → E (.ref C) none H')
def sx_both (K : PySem.W.Frag) (T : Txt K mg) : Sp := fun vs H Q E => sp_both K T.c_TooLong vs H Q E ∨ (∃ a  b , vs = [.str (S a), .str (S b)] ∧ a.length ≤ 1000 ∧ b.length ≤ 1000 ∧ (¬ Good a ∨ (Good a ∧ ¬ Good b)) ∧ ∀ H', Same H H' → E (.ref T.c_NoLight) none H')
theorem okx_both (T : Txt K mg) : FnOk P w K mg base (L2N.CX P w) 3 T.a_both T.d_both ["one", "other"] (sx_both K T) := by
  refine okN T.f_both sc_both (fun vs H Q E h => ?_) (fun cdv A outer s H vs Q E hr h => ?_)
  · rcases h with h | h
    · obtain ⟨a, b, rfl, _⟩ := h
      rfl
    · obtain ⟨a, b, rfl, _⟩ := h
      rfl
  · refine ⟨_, (pss_cons (ps_expr (pe_call (okx_asked_light T) (hr.mono (by decide)) (by rfl) T.g_asked_light T.f_asked_light.kp T.b_asked_light .nil (L2N.passes_call (L2N.takes_of rfl rfl rfl rfl) fun _ _ _ _ h => h) (pa_cons (pv 0) pa_nil)))
      (pss_cons (ps_expr (pe_call (okx_asked_light T) (hr.mono (by decide)) (by rfl) T.g_asked_light T.f_asked_light.kp T.b_asked_light .nil (L2N.passes_call (L2N.takes_of rfl rfl rfl rfl) fun _ _ _ _ h => h) (pa_cons (pv 1) pa_nil)))
      (pss_cons (ps_set (i := 2) sc_both.nd rfl (by first | exact Or.inl rfl | exact Or.inr rfl) (pe_callB call_lenS (by rfl) T.n_len PySem.boot_len (pa_cons (pv 0) pa_nil)))
      (pss_cons (ps_while (passes_of rfl) (pt_cmpR op_neI (pe_op op_mod (pv 2) (pe_callB call_lenS (by rfl) T.n_len PySem.boot_len (pa_cons (pv 1) pa_nil))) pe_int (nomark _)) (pss_one (ps_set (i := 2) sc_both.nd rfl (by first | exact Or.inl rfl | exact Or.inr rfl) (pe_op op_add (pv 2) (pe_callB call_lenS (by rfl) T.n_len PySem.boot_len (pa_cons (pv 0) pa_nil))))))
      (pss_cons (ps_set (i := 3) sc_both.nd rfl (by first | exact Or.inl rfl | exact Or.inr rfl) (pe_S (l := []) (by decide +kernel)))
      (pss_cons (ps_for (passes_of rfl) rfl (pi_range1 (by rfl) T.n_range (pa_cons (pv 2) pa_nil)) (pg_name (i := 4) sc_both.nd rfl (by first | exact Or.inl rfl | exact Or.inr rfl))
      (pss_one (ps_if (PW.pt (pw_or (pt_cmpR op_eqS (pe_ix ix_S (pv 0) (pe_op op_mod (pv 4) (pe_callB call_lenS (by rfl) T.n_len PySem.boot_len (pa_cons (pv 0) pa_nil))) (fun _ _ => rfl)) (pe_S (l := [111]) (by decide +kernel)) (nomark _)) (pw_or1 (pt_cmpR op_eqS (pe_ix ix_S (pv 1) (pe_op op_mod (pv 4) (pe_callB call_lenS (by rfl) T.n_len PySem.boot_len (pa_cons (pv 1) pa_nil))) (fun _ _ => rfl)) (pe_S (l := [111]) (by decide +kernel)) (nomark _))))) (pss_one (ps_set (i := 3) sc_both.nd rfl (by first | exact Or.inl rfl | exact Or.inr rfl) (pe_op op_addS (pv 3) (pe_S (l := [111]) (by decide +kernel))))) (pss_one (ps_set (i := 3) sc_both.nd rfl (by first | exact Or.inl rfl | exact Or.inr rfl) (pe_op op_addS (pv 3) (pe_S (l := [46]) (by decide +kernel))))))))
      (pss_cons (ps_set (i := 5) sc_both.nd rfl (by first | exact Or.inl rfl | exact Or.inr rfl) (pe_call (ok_shortest_of T) (hr.mono (by decide)) (by rfl) T.g_shortest_of T.f_shortest_of.kp T.b_shortest_of .nil pass0 (pa_cons (pv 3) pa_nil)))
      (pss_cons (ps_if (pt_cmpR op_gt (pe_callB call_lenS (by rfl) T.n_len PySem.boot_len (pa_cons (pv 5) pa_nil)) (pe_glob (v := .int 12) (by rfl) T.m_MOST ⟨_, rfl⟩) (nomark _)) (pss_one (L2N.ps_raise rfl (L2N.takes_of rfl rfl rfl rfl) (L2N.pmk_own PySem.F.excBase_ValueError T.x_TooLong T.g_TooLong T.k_TooLong (raises_own T.sb_TooLong T.ty_TooLong) rfl))) pss_nil)
      (pss_one (ps_ret (pv 5))))))))))), ?_⟩
    rcases h with h | h
    · obtain ⟨a, b, rfl, ga, gb, q, e⟩ := h
      have a1 := ga.1; have a2 := ga.2.1; have b1 := gb.1; have b2 := gb.2.1
      refine ⟨_, rfl, .inl ⟨a, rfl, ga, fun H1 s1 => ⟨_, rfl, .inl ⟨b, rfl, gb, fun H2 s2 => ?_⟩⟩⟩⟩
      have s02 := s1.trans s2
      refine ⟨_, rfl, a, rfl, by omega, ?_⟩
      refine ⟨fun m σ H' => ∃ k : Nat, ∃ y3 y4 y5, σ = [some (.str (S a)), some (.str (S b)), some (.int ((a.length * k : Nat) : Int)), y3, y4, y5] ∧ 1 ≤ k ∧ k ≤ b.length ∧ m = b.length - k ∧ H' = H2, ⟨_, 1, _, _, _, by rw [Nat.mul_one]; rfl, Nat.le_refl _, b1, rfl, rfl⟩, ?_⟩
      rintro m σ H' ⟨k, y3, y4, y5, rfl, k1, k2, rfl, rfl⟩
      refine ⟨_, rfl, _, rfl, b, rfl, by omega, _, _, rfl, rfl, by omega, _, _, rfl, rfl, _, rfl, ite2 (fun h => ?_) (fun h => ?_)⟩
      · have h : ¬ ((a.length * k : Nat) : Int) % (b.length : Int) = 0 := fun z => by rw [decide_eq_true z] at h; cases h
        have hk : k < b.length := by
          refine Nat.lt_of_le_of_ne k2 fun z => h ?_
          rw [z, ← Int.natCast_emod, Nat.mul_mod_left]
          rfl
        refine ⟨fun σ' H1 => ∃ y3 y4 y5, σ' = [some (.str (S a)), some (.str (S b)), some (.int ((a.length * (k + 1) : Nat) : Int)), y3, y4, y5] ∧ H1 = H', fun σ' H1 ⟨y3, y4, y5, e1, e2⟩ => ⟨b.length - (k + 1), by omega, k + 1, y3, y4, y5, e1, by omega, by omega, rfl, e2⟩, ?_⟩
        refine ⟨_, rfl, _, rfl, a, rfl, by omega, _, _, rfl, rfl, y3, y4, y5, ?_, rfl⟩
        rw [Nat.mul_succ, Int.natCast_add]
        rfl
      · have h : ((a.length * k : Nat) : Int) % (b.length : Int) = 0 := by
          by_cases z : ((a.length * k : Nat) : Int) % (b.length : Int) = 0
          · exact z
          · exact absurd (by rw [decide_eq_false z]; rfl) h
        have d1 : a.length ∣ a.length * k := Nat.dvd_mul_right _ _
        have d2 : b.length ∣ a.length * k := by
          refine Nat.dvd_of_mod_eq_zero ?_
          rw [← Int.natCast_emod] at h
          omega
        have n1 : 1 ≤ a.length * k := Nat.mul_pos a1 k1
        have n2 : a.length * k ≤ 12 * 12 := Nat.mul_le_mul a2 (by omega)
        have hm := bothL_of a1 b1 n1 d1 d2
        have hsh := short_row a1 b1 n1 d1 d2
        generalize a.length * k = n at n1 n2 hm hsh
        refine ⟨_, rfl, _, rfl, by omega, by omega, ?_⟩
        refine for_it walkR (fun i σ H1 => ∃ y4 y5, σ = [some (.str (S a)), some (.str (S b)), some (.int (n : Int)), some (.str (S (rowV a b i))), y4, y5] ∧ H1 = H') ⟨_, _, rfl, rfl⟩ (fun _ _ _ _ _ => trivial) (fun i x σ H1 H3 hi hp y => ?_) (fun σ H1 hp => ?_)
        · obtain ⟨y4, y5, rfl, rfl⟩ := hp
          obtain ⟨rfl, rfl⟩ := y
          rw [Int.toNat_natCast] at hi
          have next := rowV_succ a b i
          refine ⟨_, rfl, _, rfl, _, rfl, a, rfl, by omega, _, _, rfl, rfl, by omega, a, _, _, rfl, rfl, by omega, atI_mod a1 _, _, _, rfl, rfl, _, rfl, ite2 (fun h1 => ?_) (fun h1 => ?_)⟩
          · have h1 : sg a (i : Int) = 111 := by simpa using of_decide_eq_true h1
            have e1 : uni a b (i : Int) = 111 := if_pos (.inl h1)
            refine ⟨_, rfl, _, _, rfl, rfl, by rw [rowV_len]; show i + 1 ≤ 100000; omega, some (.int (i : Nat)), y5, ?_, rfl⟩
            rw [next, e1]
            rfl
          · have h1 : ¬ sg a (i : Int) = 111 := fun z => h1 (decide_eq_true (by rw [z]))
            refine ⟨_, rfl, _, rfl, _, rfl, b, rfl, by omega, _, _, rfl, rfl, by omega, b, _, _, rfl, rfl, by omega, atI_mod b1 _, _, _, rfl, rfl, _, rfl, ite2 (fun h2 => ?_) (fun h2 => ?_)⟩
            · have h2 : sg b (i : Int) = 111 := by simpa using of_decide_eq_true h2
              have e1 : uni a b (i : Int) = 111 := if_pos (.inr h2)
              refine ⟨_, rfl, _, _, rfl, rfl, by rw [rowV_len]; show i + 1 ≤ 100000; omega, some (.int (i : Nat)), y5, ?_, rfl⟩
              rw [next, e1]
              rfl
            · have h2 : ¬ sg b (i : Int) = 111 := fun z => h2 (decide_eq_true (by rw [z]))
              have e1 : uni a b (i : Int) = 46 := if_neg fun z => z.elim h1 h2
              refine ⟨_, rfl, _, _, rfl, rfl, by rw [rowV_len]; show i + 1 ≤ 100000; omega, some (.int (i : Nat)), y5, ?_, rfl⟩
              rw [next, e1]
              rfl
        · obtain ⟨y4, y5, rfl, rfl⟩ := hp
          rw [Int.toNat_natCast]
          have bl : bothL a b ≤ n := by
            have := measure_le (l := rowV a b n) (by rw [rowV_len]; exact n1)
            rw [rowV_len, hm] at this
            exact this
          refine ⟨_, rfl, rowV a b n, rfl, by rw [rowV_len]; exact n1, by rw [rowV_len]; omega, fun H4 s4 => ?_⟩
          rw [hsh]
          refine ⟨_, rfl, rowV a b (bothL a b), rfl, by rw [rowV_len]; omega, _, _, rfl, rfl, _, rfl, ite2 (fun h => ?_) (fun h => ?_)⟩
          · have h := of_decide_eq_true h
            rw [rowV_len] at h
            exact e (by omega) _ (s02.trans s4)
          · have h : ¬ (12 : Int) < ((rowV a b (bothL a b)).length : Int) := fun z => h (decide_eq_true z)
            rw [rowV_len] at h
            exact ⟨_, rfl, q (by omega) _ (s02.trans s4)⟩
    · obtain ⟨a,  b,  rfl, za, zb, hn, e⟩ := h
      rcases hn with hn | ⟨ga, hn⟩
      · exact ⟨_, rfl, .inr ⟨a, rfl, za, hn, e⟩⟩
      · exact ⟨_, rfl, .inl ⟨a, rfl, ga, fun H1 s1 => ⟨_, rfl, .inr ⟨b, rfl, zb, hn, fun H2 s2 => e H2 (s1.trans s2)⟩⟩⟩⟩

end
end Lw
namespace Lw
open PySem PySem.Spec PyProof.Rows L2 TL
local macro_rules | `(tactic| walk_at "rd") => `(tactic| (repeat (first | refine ⟨_, rfl, ?_⟩ | refine ⟨_, _, rfl, rfl, ?_⟩ | refine ⟨rfl, ?_⟩ | refine iteT ?_)))
section
variable {P : Program} {w : World} {K : PySem.W.Frag} {mg : Str → Option Value} {base : Heap}
def sp_asked_book (K : PySem.W.Frag) : Sp := fun vs H Q _ => ∃ (b : Addr) (ls : List (List Nat)), vs = [.ref b] ∧ SqL K H b (tx ls) ∧ Book ls ∧ ∀ H', Same H H' → Q .non H'
def sx_asked_book (K : PySem.W.Frag) (T : Txt K mg) : Sp := fun vs H Q E => sp_asked_book K vs H Q E ∨ (∃ (b : Addr) (ls : List (List Nat)) (C : Addr), vs = [.ref b] ∧ SqL K H b (tx ls) ∧ ls.length ≤ 1000 ∧ (∀ l ∈ ls, l.length ≤ 1000) ∧ BadB T.c_NoBook T.c_NoLight ls C ∧ ∀ H', Same H H' → E (.ref C) none H')
theorem okx_asked_book (T : Txt K mg) : FnOk P w K mg base (L2N.CX P w) 3 T.a_asked_book T.d_asked_book ["book"] (sx_asked_book K T) := by
  refine okN T.f_asked_book sc_asked_book (fun vs H Q E h => ?_) (fun cdv A outer s H vs Q E hr h => ?_)
  · rcases h with h | h
    · obtain ⟨b, ls, rfl, _⟩ := h
      rfl
    · obtain ⟨b, ls, C, rfl, _⟩ := h
      rfl
  · refine ⟨_, (pss_cons (ps_if (PW.pt (pw_or (pt_cmpR op_lt (pe_callB call_lenL (by rfl) T.n_len PySem.boot_len (pa_cons (pv 0) pa_nil)) pe_int (nomark _)) (pw_or1 (pt_cmpR op_gt (pe_callB call_lenL (by rfl) T.n_len PySem.boot_len (pa_cons (pv 0) pa_nil)) (pe_glob (v := .int 5) (by rfl) T.m_MOST_LIGHTS ⟨_, rfl⟩) (nomark _))))) (pss_one (L2N.ps_raise rfl (L2N.takes_of rfl rfl rfl rfl) (L2N.pmk_own PySem.F.excBase_ValueError T.x_NoBook T.g_NoBook T.k_NoBook (raises_own T.sb_NoBook T.ty_NoBook) rfl))) pss_nil)
      (pss_one (ps_for (passes_of rfl) rfl (pi_list (pv 0)) (pg_name (i := 1) sc_asked_book.nd rfl (by first | exact Or.inl rfl | exact Or.inr rfl))
      (pss_one (ps_expr (pe_call (okx_asked_light T) (hr.mono (by decide)) (by rfl) T.g_asked_light T.f_asked_light.kp T.b_asked_light .nil (L2N.passes_call (L2N.takes_of rfl rfl rfl rfl) fun _ _ _ _ h => h) (pa_cons (pv 1) pa_nil))))))), ?_⟩
    rcases h with h | h
    · obtain ⟨b, ls, rfl, hs, hb, q⟩ := h
      have b1 := hb.1; have b2 := hb.2.1
      have hlen : (tx ls).length = ls.length := List.length_map _
      refine ⟨_, rfl, b, _, rfl, hs, _, _, rfl, rfl, _, rfl, ?_⟩
      rw [decide_eq_false (show ¬ ((tx ls).length : Int) < 1 by omega)]
      refine ⟨_, rfl, b, _, rfl, hs, _, _, rfl, rfl, _, rfl, ?_⟩
      rw [decide_eq_false (show ¬ (5 : Int) < ((tx ls).length : Int) by omega)]
      refine ⟨_, rfl, b, rfl, ⟨_, hs⟩, ?_⟩
      refine for_it (walk_list (xs := tx ls)) (fun i σ H' => ∃ y, σ = [some (.ref b), y] ∧ Same H H') ⟨_, rfl, Same.refl _⟩ (fun i σ H' _ hp => by obtain ⟨_, _, h⟩ := hp; exact h.seq hs) (fun i x σ H1 H2 hi hp y => ?_) (fun σ H1 hp => ?_)
      · obtain ⟨y1, rfl, s1⟩ := hp
        obtain ⟨rfl, hx⟩ := y
        obtain ⟨l, hl, rfl⟩ := tx_get hx
        exact ⟨_, rfl, .inl ⟨l, rfl, hb.2.2 l (List.mem_of_getElem? hl), fun H3 s3 => ⟨_, rfl, s1.trans s3⟩⟩⟩
      · obtain ⟨y1, rfl, s1⟩ := hp
        exact q _ s1
    · obtain ⟨b, ls, C, rfl, hs, hz1, hz2, hbad, e⟩ := h
      have hlen : (tx ls).length = ls.length := List.length_map _
      refine ⟨_, rfl, b, _, rfl, hs, _, _, rfl, rfl, _, rfl, ?_⟩
      rcases hbad with ⟨rfl, h⟩ | ⟨rfl, h1, h2, h3⟩
      · refine ite2 (fun z => ?_) (fun z => ?_)
        · exact e _ (Same.refl _)
        · have z : ¬ ((tx ls).length : Int) < 1 := fun y => z (decide_eq_true y)
          refine ⟨_, rfl, b, _, rfl, hs, _, _, rfl, rfl, _, rfl, ?_⟩
          rw [decide_eq_true (show (5 : Int) < ((tx ls).length : Int) by omega)]
          exact e _ (Same.refl _)
      · rw [decide_eq_false (show ¬ ((tx ls).length : Int) < 1 by omega)]
        refine ⟨_, rfl, b, _, rfl, hs, _, _, rfl, rfl, _, rfl, ?_⟩
        rw [decide_eq_false (show ¬ (5 : Int) < ((tx ls).length : Int) by omega)]
        refine ⟨_, rfl, b, rfl, ⟨_, hs⟩, ?_⟩
        refine for_it (walk_list (xs := tx ls)) (fun i σ H' => ∃ y, σ = [some (.ref b), y] ∧ (∀ l ∈ ls.take i, Good l) ∧ Same H H') ⟨_, rfl, fun l hl => (nomatch hl), Same.refl _⟩ (fun i σ H' _ hp => by obtain ⟨_, _, _, h⟩ := hp; exact h.seq hs) (fun i x σ H1 H2 hi hp y => ?_) (fun σ H1 hp => ?_)
        · obtain ⟨y1, rfl, hgs, s1⟩ := hp
          obtain ⟨rfl, hx⟩ := y
          obtain ⟨l, hl, rfl⟩ := tx_get hx
          by_cases gl : Good l
          · refine ⟨_, rfl, .inl ⟨l, rfl, gl, fun H3 s3 => ⟨_, rfl, fun l' hl' => ?_, s1.trans s3⟩⟩⟩
            rw [take_snoc hl] at hl'
            rcases List.mem_append.mp hl' with z | z
            · exact hgs l' z
            · rw [List.mem_singleton.mp z]; exact gl
          · exact ⟨_, rfl, .inr ⟨l, rfl, hz2 l (List.mem_of_getElem? hl), gl, fun H3 s3 => e H3 (s1.trans s3)⟩⟩
        · obtain ⟨y1, rfl, hgs, s1⟩ := hp
          rw [hlen, List.take_length] at hgs
          obtain ⟨l, hl, hn⟩ := h3
          exact absurd (hgs l hl) hn

end
end Lw
namespace Lw
open PySem PySem.Spec PyProof.Rows L2 TL
local macro_rules | `(tactic| walk_at "rd") => `(tactic| (repeat (first | refine ⟨_, rfl, ?_⟩ | refine ⟨_, _, rfl, rfl, ?_⟩ | refine ⟨rfl, ?_⟩ | refine iteT ?_)))
section
variable {P : Program} {w : World} {K : PySem.W.Frag} {mg : Str → Option Value} {base : Heap}
def sp_asked_sight (K : PySem.W.Frag) : Sp := fun vs H Q _ => ∃ l, vs = [.str (S l)] ∧ l.length ≤ 100 ∧ (∀ c ∈ l, isSign c = true) ∧ ∀ H', Same H H' → Q .non H'
def sx_asked_sight (K : PySem.W.Frag) (T : Txt K mg) : Sp := fun vs H Q E => sp_asked_sight K vs H Q E ∨ (∃ s, vs = [.str (S s)] ∧ s.length ≤ 1000 ∧ BadS s ∧ ∀ H', Same H H' → E (.ref T.c_NoSight) none H')
theorem okx_asked_sight (T : Txt K mg) : FnOk P w K mg base (L2N.CX P w) 1 T.a_asked_sight T.d_asked_sight ["sight"] (sx_asked_sight K T) := by
  refine okN T.f_asked_sight sc_asked_sight (fun vs H Q E h => ?_) (fun cdv A outer s H vs Q E hr h => ?_)
  · rcases h with h | h
    · obtain ⟨l, rfl, _⟩ := h
      rfl
    · obtain ⟨l, rfl, _⟩ := h
      rfl
  · refine ⟨_, (pss_one (ps_if (PW.pt (pw_or (pt_cmpR op_gt (pe_callB call_lenS (by rfl) T.n_len PySem.boot_len (pa_cons (pv 0) pa_nil)) (pe_glob (v := .int 100) (by rfl) T.m_MOST_SEEN ⟨_, rfl⟩) (nomark _)) (pw_or1 (pt_not (pt_val (pe_callB (cr_all rfl) (by rfl) T.n_all (by decide +kernel) (pa_cons (pe_lc (own := [("sign", 1)]) (g := gName 1) (by rfl) sc_asked_sight.nd (pi_str (pv 0)) (blkOk_by (own := [("sign", 1)]) (N := ["sight", "sign"]) (sc := defScope s_asked_sight) (by decide +kernel)) (fun _ _ _ _ _ => (pg_name (i := 1) sc_asked_sight.nd rfl (by first | exact Or.inl rfl | exact Or.inr rfl))) (fun _ _ _ _ _ => pts_nil) (fun _ _ _ _ _ => (pe_or (pe_cmpR op_eqS (pv 1) (pe_S (l := [111]) (by decide +kernel)) (nomark _)) (pe_one (pe_cmpR op_eqS (pv 1) (pe_S (l := [46]) (by decide +kernel)) (nomark _)))))) pa_nil))))))) (pss_one (L2N.ps_raise rfl (L2N.takes_of rfl rfl rfl rfl) (L2N.pmk_own PySem.F.excBase_ValueError T.x_NoSight T.g_NoSight T.k_NoSight (raises_own T.sb_NoSight T.ty_NoSight) rfl))) pss_nil)), ?_⟩
    rcases h with h | h
    · obtain ⟨l, rfl, hz, hg, q⟩ := h
      refine ⟨_, rfl, _, rfl, by omega, _, _, rfl, rfl, _, rfl, ?_⟩
      rw [decide_eq_false (show ¬ (100 : Int) < (l.length : Int) by omega)]
      refine ⟨_, rfl, _, rfl, fun D hD => ?_⟩
      refine lc_map walkS (fun _ => true) (fun i => .bl (isSign (l.getD i 0))) (by omega) hD (fun _ _ => trivial) (fun i x H H' y => y.1 ▸ Same.refl _) (fun i x H1 H' hi s1 y k k' hk hk' => ?_) (fun H1 s1 e => ?_)
      · obtain ⟨rfl, c, hc, rfl⟩ := y
        have hk := hk rfl _ (Same.refl _)
        have e : l.getD i 0 = c := by rw [List.getD_eq_getElem?_getD, hc]; rfl
        rw [e] at hk
        refine ⟨rfl, _, rfl, _, _, rfl, rfl, _, rfl, ite2 (fun h => ?_) (fun h => ?_)⟩
        · have h := of_decide_eq_true h
          obtain rfl : c = 111 := by simpa using h
          exact hk
        · refine ⟨_, rfl, _, _, rfl, rfl, ?_⟩
          have e2 : isSign c = decide ([c] = [46]) := by
            have h : ¬ c = 111 := fun z => h (by rw [z]; rfl)
            by_cases h3 : c = 46
            · subst h3; rfl
            · simp [isSign, h, h3]
          rw [← e2]
          exact hk
      · rw [given_all] at e
        refine ⟨D, (List.range l.length).map fun i => isSign (l.getD i 0), rfl, ?_, ?_⟩
        · refine SqL.of ?_
          rw [e, List.map_map]
          rfl
        · have ht : ((List.range l.length).map fun i => isSign (l.getD i 0)).all id = true := by
            rw [List.all_map, List.all_eq_true]
            intro i hi
            have hi' := List.mem_range.mp hi
            have := hg l[i] (List.getElem_mem hi')
            simpa [hi'] using this
          rw [ht]
          exact ⟨_, rfl, q H1 s1⟩
    · obtain ⟨l, rfl, hz, hbad, ex⟩ := h
      refine ⟨_, rfl, _, rfl, by omega, _, _, rfl, rfl, _, rfl, ite2 (fun h => ?_) (fun h => ?_)⟩
      · exact ex _ (Same.refl _)
      · have h0 : ¬ (100 : Int) < (l.length : Int) := fun z => h (decide_eq_true z)
        refine ⟨_, rfl, _, rfl, fun D hD => ?_⟩
        refine lc_map walkS (fun _ => true) (fun i => .bl (isSign (l.getD i 0))) (by omega) hD (fun _ _ => trivial) (fun i x H H' y => y.1 ▸ Same.refl _) (fun i x H1 H' hi s1 y k k' hk hk' => ?_) (fun H1 s1 e => ?_)
        · obtain ⟨rfl, c, hc, rfl⟩ := y
          have hk := hk rfl _ (Same.refl _)
          have e : l.getD i 0 = c := by rw [List.getD_eq_getElem?_getD, hc]; rfl
          rw [e] at hk
          refine ⟨rfl, _, rfl, _, _, rfl, rfl, _, rfl, ite2 (fun h => ?_) (fun h => ?_)⟩
          · have h := of_decide_eq_true h
            obtain rfl : c = 111 := by simpa using h
            exact hk
          · refine ⟨_, rfl, _, _, rfl, rfl, ?_⟩
            have e2 : isSign c = decide ([c] = [46]) := by
              have h : ¬ c = 111 := fun z => h (by rw [z]; rfl)
              by_cases h3 : c = 46
              · subst h3; rfl
              · simp [isSign, h, h3]
            rw [← e2]
            exact hk
        · rw [given_all] at e
          refine ⟨D, (List.range l.length).map fun i => isSign (l.getD i 0), rfl, ?_, ?_⟩
          · refine SqL.of ?_
            rw [e, List.map_map]
            rfl
          · have ht : ((List.range l.length).map fun i => isSign (l.getD i 0)).all id = false := by
              rw [all_signs]
              refine Bool.eq_false_iff.mpr fun z => hbad ⟨by omega, ?_⟩
              rw [List.all_eq_true] at z
              exact z
            rw [ht]
            exact ⟨_, rfl, ex H1 s1⟩

end
end Lw
namespace Lw
open PySem PySem.Spec PyProof.Rows L2 TL
local macro_rules | `(tactic| walk_at "rd") => `(tactic| (repeat (first | refine ⟨_, rfl, ?_⟩ | refine ⟨_, _, rfl, rfl, ?_⟩ | refine ⟨rfl, ?_⟩ | refine iteT ?_)))
section
variable {P : Program} {w : World} {K : PySem.W.Frag} {mg : Str → Option Value} {base : Heap}
def sp_spots (K : PySem.W.Frag) : Sp := fun vs H Q _ => ∃ (b : Addr) (ls : List (List Nat)), vs = [.ref b] ∧ SqL K H b (tx ls) ∧ Book ls ∧ ∀ H' p xs, Same H H' → H p = none → H' p = some (.lst xs) → Tups H' xs ((spV ls).map pr) → Q (.ref p) H'
theorem ok_spots (T : Txt K mg) : FnOk P w K mg base CX0 3 T.a_spots T.d_spots ["book"] (sp_spots K) := by
  refine T.f_spots.ok sc_spots (fun vs H Q E h => ?_) (fun cdv A outer s H vs Q E hr h => ?_)
  · obtain ⟨b, ls, rfl, _⟩ := h
    rfl
  · obtain ⟨b, ls, rfl, hs, hb, q⟩ := h
    refine ⟨_, (pss_cons (ps_set (i := 1) sc_spots.nd rfl (by first | exact Or.inl rfl | exact Or.inr rfl) (pe_lst pa_nil))
      (pss_cons (ps_for PassesOwn.never rfl (pi_enum (by rfl) T.n_enumerate (pa_cons (pv 0) pa_nil)) (pg_tup rfl (pgs_cons (pg_name (i := 2) sc_spots.nd rfl (by first | exact Or.inl rfl | exact Or.inr rfl)) (pgs_cons (pg_name (i := 3) sc_spots.nd rfl (by first | exact Or.inl rfl | exact Or.inr rfl)) pgs_nil)))
      (pss_one (ps_expr (pe_bm PySem.F.plainAttrs_list PySem.F.slot_list_extend PySem.F.type_list_extend mt_extend (pv 1) (pa_cons (pe_lc (own := [("moment", 4)]) (g := gName 4) (by rfl) sc_spots.nd (pi_range1 (by rfl) T.n_range (pa_cons (pe_callB call_lenS (by rfl) T.n_len PySem.boot_len (pa_cons (pe_call (ok_shortest_of T) (hr.mono (by decide)) (by rfl) T.g_shortest_of T.f_shortest_of.kp T.b_shortest_of .nil pass0 (pa_cons (pv 3) pa_nil)) pa_nil)) pa_nil)) (blkOk_by (own := [("moment", 4)]) (N := ["book", "found", "number", "light", "moment"]) (sc := defScope s_spots) (by decide +kernel)) (fun _ _ _ _ _ => (pg_name (i := 4) sc_spots.nd rfl (by first | exact Or.inl rfl | exact Or.inr rfl))) (fun _ _ _ _ _ => pts_nil) (fun _ _ _ _ _ => (pe_tup (pa_cons (pv 2) (pa_cons (pv 4) pa_nil))))) pa_nil)))))
      (pss_one (ps_ret (pv 1))))), ?_⟩
    have b1 := hb.1; have b2 := hb.2.1
    have hlen : (tx ls).length = ls.length := List.length_map _
    refine ⟨line_of (by show 0 ≤ 100000; decide), fun f hf => ?_⟩
    have s0 := same_upd (o := .lst []) hf
    refine ⟨_, rfl, b, _, rfl, s0.seq hs, ?_⟩
    refine for_it (walk_enum (xs := tx ls)) (fun i σ H' => ∃ y2 y3 y4 xs, σ = [some (.ref b), some (.ref f), y2, y3, y4] ∧ H' f = some (.lst xs) ∧ Tups H' xs ((spN ls i).map pr) ∧ Same H H') ⟨_, _, _, [], rfl, upd_same, .nil, s0⟩ (fun i σ H' _ hp => by obtain ⟨_, _, _, _, _, _, _, h⟩ := hp; exact h.seq hs) (fun i x σ H1 H2 hi hp y => ?_) (fun σ H1 hp => ?_)
    · obtain ⟨y2, y3, y4, xs, rfl, hf1, ht1, s1⟩ := hp
      obtain ⟨t, x1, x2, rfl, ht0, rfl, e1, e2⟩ := y
      have e1 := Option.some.inj e1
      subst e1
      obtain ⟨l, hl, rfl⟩ := tx_get e2
      have hi2 : i < ls.length := by omega
      have el : lt ls i = l := lt_of hl
      have gl := hb.2.2 l (List.mem_of_getElem? hl)
      have g1 := gl.1; have g2 := gl.2.1
      have s2 := same_upd (o := .tup [.int (i : Nat), .str (S l)]) ht0
      refine ⟨t, _, rfl, SqT.of upd_same, rfl, _, _, rfl, _, _, rfl, rfl, ?_⟩
      refine ⟨_, rfl, .inl ⟨rfl, _, SqL.of (s2 _ _ hf1)⟩, ?_⟩
      refine ⟨_, rfl, l, rfl, g1, by omega, fun H3 s3 => ⟨_, rfl, by rw [shortest_len g1]; have := measure_12 gl; omega, _, rfl, by omega, by rw [shortest_len g1]; have := measure_12 gl; omega, fun D hD => ?_⟩⟩
      have s03 := s2.trans s3
      have hf3 := s03 _ _ hf1
      have m12 := measure_12 gl
      have hm : ((shortest l).length : Int).toNat = measure l := by rw [Int.toNat_natCast, shortest_len g1]
      refine lc_tups walkR (fun _ => true) (fun k => pr (i, k)) (by rw [hm]; omega) hD (fun _ _ => trivial) (fun i x H H' y => y.1 ▸ Same.refl _) (fun j x H5 H6 hj s5 y k k' hk hk' => ?_) (fun H7 ys s7 eD hD7 => ?_)
      · obtain ⟨rfl, rfl⟩ := y
        refine ⟨rfl, _, rfl, _, rfl, line_of (by show 2 ≤ 100000; decide), fun t2 ht2 => ?_⟩
        exact hk rfl _ _ (same_upd ht2) upd_same
      · rw [hm, pick_all] at hD7
        have ef := s7 _ _ hf3
        have tf := ht1.mono (s03.trans s7)
        have l1 := tf.len
        have l2 := hD7.len
        rw [List.length_map] at l1
        rw [List.length_map, List.length_range] at l2
        have l3 := spN_len hb i (by omega)
        refine ⟨_, _, _, _, rfl, rfl, ef, eD, line_of (by omega), _, _, _, _, rfl, upd_same, ?_, Same_mut (s1.trans (s03.trans s7)) hf⟩
        rw [spN_succ, List.map_append, List.map_map, el]
        exact (tf.wrote ef).app (hD7.wrote ef)
    · obtain ⟨y2, y3, y4, xs, rfl, hf1, ht1, s1⟩ := hp
      rw [hlen] at ht1
      exact ⟨_, rfl, q _ f xs s1 hf hf1 ht1⟩

end
end Lw
namespace Lw
open PySem PySem.Spec PyProof.Rows L2 TL
local macro_rules | `(tactic| walk_at "rd") => `(tactic| (repeat (first | refine ⟨_, rfl, ?_⟩ | refine ⟨_, _, rfl, rfl, ?_⟩ | refine ⟨rfl, ?_⟩ | refine iteT ?_)))
section
variable {P : Program} {w : World} {K : PySem.W.Frag} {mg : Str → Option Value} {base : Heap}
def sp_fitting (K : PySem.W.Frag) : Sp := fun vs H Q _ => ∃ (b : Addr) (ls : List (List Nat)) (s : List Nat), vs = [.ref b, .str (S s)] ∧ SqL K H b (tx ls) ∧ Book ls ∧ s.length ≤ 100 ∧ (∀ c ∈ s, isSign c = true) ∧ ∀ H' p xs, Same H H' → H p = none → H' p = some (.lst xs) → Tups H' xs ((fitV ls s).map pr) → Q (.ref p) H'
def sx_fitting (K : PySem.W.Frag) (T : Txt K mg) : Sp := fun vs H Q E => sp_fitting K vs H Q E ∨ (∃ (b : Addr) (ls : List (List Nat)) (s : List Nat), vs = [.ref b, .str (S s)] ∧ SqL K H b (tx ls) ∧ ls.length ≤ 1000 ∧ (∀ l ∈ ls, l.length ≤ 1000) ∧ s.length ≤ 1000 ∧ ((∃ C, BadB T.c_NoBook T.c_NoLight ls C ∧ ∀ H', Same H H' → E (.ref C) none H') ∨ (Book ls ∧ BadS s ∧ ∀ H', Same H H' → E (.ref T.c_NoSight) none H')))
theorem okx_fitting (T : Txt K mg) : FnOk P w K mg base (L2N.CX P w) 4 T.a_fitting T.d_fitting ["book", "sight"] (sx_fitting K T) := by
  refine okN T.f_fitting sc_fitting (fun vs H Q E h => ?_) (fun cdv A outer s H vs Q E hr h => ?_)
  · rcases h with h | h
    · obtain ⟨b, ls, s, rfl, _⟩ := h
      rfl
    · obtain ⟨b, ls, s, rfl, _⟩ := h
      rfl
  · refine ⟨_, (pss_cons (ps_expr (pe_call (okx_asked_book T) (hr.mono (by decide)) (by rfl) T.g_asked_book T.f_asked_book.kp T.b_asked_book .nil (L2N.passes_call (L2N.takes_of rfl rfl rfl rfl) fun _ _ _ _ h => h) (pa_cons (pv 0) pa_nil)))
      (pss_cons (ps_expr (pe_call (okx_asked_sight T) (hr.mono (by decide)) (by rfl) T.g_asked_sight T.f_asked_sight.kp T.b_asked_sight .nil (L2N.passes_call (L2N.takes_of rfl rfl rfl rfl) fun _ _ _ _ h => h) (pa_cons (pv 1) pa_nil)))
      (pss_one (ps_ret (pe_lc (own := [("spot", 2)]) (g := gName 2) (by rfl) sc_fitting.nd (pi_list (pe_call (ok_spots T) (hr.mono (by decide)) (by rfl) T.g_spots T.f_spots.kp T.b_spots .nil pass0 (pa_cons (pv 0) pa_nil))) (blkOk_by (own := [("spot", 2)]) (N := ["book", "sight", "spot"]) (sc := defScope s_fitting) (by decide +kernel)) (fun _ _ _ _ _ => (pg_name (i := 2) sc_fitting.nd rfl (by first | exact Or.inl rfl | exact Or.inr rfl))) (fun _ _ _ _ _ => (pts_one (pt_cmpR op_eqS (pe_call (ok_showing T) (hr.mono (by decide)) (by rfl) T.g_showing T.f_showing.kp T.b_showing .nil pass0 (pa_cons (pe_ix (ixK (K := K) (r := rIxL) rfl ix_list) (pv 0) (pe_ix (ixK (K := K) (r := rIxT) rfl ix_tup) (pv 2) pe_int (fun _ _ => rfl)) (fun _ _ => rfl)) (pa_cons (pe_ix (ixK (K := K) (r := rIxT) rfl ix_tup) (pv 2) pe_int (fun _ _ => rfl)) (pa_cons (pe_callB call_lenS (by rfl) T.n_len PySem.boot_len (pa_cons (pv 1) pa_nil)) pa_nil)))) (pv 1) (nomark _)))) (fun _ _ _ _ _ => (pv 2))))))), ?_⟩
    rcases h with h | h
    · obtain ⟨b, ls, s, rfl, hs, hb, hz, hg, q⟩ := h
      have b1 := hb.1; have b2 := hb.2.1
      refine ⟨_, rfl, .inl ⟨b, ls, rfl, hs, hb, fun H1 s1 => ⟨_, rfl, .inl ⟨s, rfl, hz, hg, fun H2 s2 => ?_⟩⟩⟩⟩
      have s02 := s1.trans s2
      refine ⟨_, rfl, b, ls, rfl, s02.seq hs, hb, fun H3 f xs s3 hf0 hf htf => ?_⟩
      have s03 := s02.trans s3
      have lx := htf.len
      rw [List.length_map] at lx
      have l60 := spV_len hb
      refine ⟨f, rfl, ⟨_, SqL.of hf⟩, fun D hD => ?_⟩
      refine lc_tups (walk_list (xs := xs)) (fun i => fitP ls s ((spV ls).getD i (0, 0))) (fun i => pr ((spV ls).getD i (0, 0))) (by omega) hD (fun H' s' => SqL.of (s' _ _ hf)) (fun i x H H' y => y.1 ▸ Same.refl _) (fun i x H5 H6 hi s5 y k k' hk hk' => ?_) (fun H7 ys s7 eD hD7 => ?_)
      · obtain ⟨rfl, hx⟩ := y
        have hi2 : i < (spV ls).length := by omega
        have ez : (spV ls)[i]? = some ((spV ls).getD i (0, 0)) := by
          rw [List.getD_eq_getElem?_getD, List.getElem?_eq_getElem hi2]
          rfl
        generalize (spV ls).getD i (0, 0) = z at ez hk hk'
        obtain ⟨z1, z2⟩ := sp_at ez
        obtain ⟨t, ns, rfl, hns, ht⟩ := (htf.mono s5).get hx
        rw [List.getElem?_map, ez] at hns
        have hns := Option.some.inj hns
        subst hns
        have gz := lt_good hb z1
        have g1 := gz.1; have g2 := gz.2.1
        refine ⟨rfl, _, rfl, _, rfl, t, _, _, .int (z.1 : Int), rfl, rfl, SqT.of ht, rfl, b, _, _, .str (S (lt ls z.1)), rfl, rfl, (s03.trans s5).seq hs, atN (j := z.1) rfl (tx_at (lt_get z1)), ?_⟩
        refine ⟨_, rfl, t, _, _, .int (z.2 : Int), rfl, rfl, SqT.of ht, rfl, _, rfl, s, rfl, by omega, ?_⟩
        refine ⟨lt ls z.1, (z.2 : Int), _, rfl, g1, by omega, by omega, by omega, fun H8 s8 => ?_⟩
        refine ⟨_, rfl, _, _, rfl, rfl, _, rfl, ?_⟩
        rw [Int.toNat_natCast]
        refine ite2 (fun h => ?_) (fun h => ?_)
        · exact ⟨_, rfl, hk h _ _ s8 (s8 _ _ ht)⟩
        · exact hk' (Bool.eq_false_iff.mpr h) _ s8
      · rw [lx] at hD7
        unfold pick at hD7
        rw [filt_range (spV ls) (0, 0) (fitP ls s) pr] at hD7
        exact q _ D ys (s03.trans s7) (same_none s03 hD) eD hD7
    · obtain ⟨b, ls, s, rfl, hs, z1, z2, z3, h⟩ := h
      rcases h with ⟨C, hbad, e⟩ | ⟨hb, hbs, e⟩
      · exact ⟨_, rfl, .inr ⟨b, ls, C, rfl, hs, z1, z2, hbad, e⟩⟩
      · exact ⟨_, rfl, .inl ⟨b, ls, rfl, hs, hb, fun H1 s1 => ⟨_, rfl, .inr ⟨s, rfl, z3, hbs, fun H2 s2 => e H2 (s1.trans s2)⟩⟩⟩⟩

end
end Lw
namespace Lw
open PySem PySem.Spec PyProof.Rows L2 TL
local macro_rules | `(tactic| walk_at "rd") => `(tactic| (repeat (first | refine ⟨_, rfl, ?_⟩ | refine ⟨_, _, rfl, rfl, ?_⟩ | refine ⟨rfl, ?_⟩ | refine iteT ?_)))
section
variable {P : Program} {w : World} {K : PySem.W.Frag} {mg : Str → Option Value} {base : Heap}
def sp_watch (K : PySem.W.Frag) : Sp := fun vs H Q _ => ∃ (b : Addr) (ls : List (List Nat)), vs = [.ref b] ∧ SqL K H b (tx ls) ∧ Book ls ∧ ∀ H', Same H H' → Q (.int (watV ls : Nat)) H'
def sx_watch (K : PySem.W.Frag) (T : Txt K mg) : Sp := fun vs H Q E => sp_watch K vs H Q E ∨ (∃ (b : Addr) (ls : List (List Nat)) (C : Addr), vs = [.ref b] ∧ SqL K H b (tx ls) ∧ ls.length ≤ 1000 ∧ (∀ l ∈ ls, l.length ≤ 1000) ∧ BadB T.c_NoBook T.c_NoLight ls C ∧ ∀ H', Same H H' → E (.ref C) none H')
theorem okx_watch (T : Txt K mg) : FnOk P w K mg base (L2N.CX P w) 4 T.a_watch T.d_watch ["book"] (sx_watch K T) := by
  refine okN T.f_watch sc_watch (fun vs H Q E h => ?_) (fun cdv A outer s H vs Q E hr h => ?_)
  · rcases h with h | h
    · obtain ⟨b, ls, rfl, _⟩ := h
      rfl
    · obtain ⟨b, ls, C, rfl, _⟩ := h
      rfl
  · refine ⟨_, (pss_cons (ps_expr (pe_call (okx_asked_book T) (hr.mono (by decide)) (by rfl) T.g_asked_book T.f_asked_book.kp T.b_asked_book .nil (L2N.passes_call (L2N.takes_of rfl rfl rfl rfl) fun _ _ _ _ h => h) (pa_cons (pv 0) pa_nil)))
      (pss_cons (ps_set (i := 1) sc_watch.nd rfl (by first | exact Or.inl rfl | exact Or.inr rfl) pe_int)
      (pss_cons (ps_set (i := 2) sc_watch.nd rfl (by first | exact Or.inl rfl | exact Or.inr rfl) (pe_call (ok_spots T) (hr.mono (by decide)) (by rfl) T.g_spots T.f_spots.kp T.b_spots .nil pass0 (pa_cons (pv 0) pa_nil)))
      (pss_cons (ps_for (passes_of rfl) rfl (pi_enum (by rfl) T.n_enumerate (pa_cons (pv 2) pa_nil)) (pg_tup rfl (pgs_cons (pg_name (i := 3) sc_watch.nd rfl (by first | exact Or.inl rfl | exact Or.inr rfl)) (pgs_cons (pg_name (i := 4) sc_watch.nd rfl (by first | exact Or.inl rfl | exact Or.inr rfl)) pgs_nil)))
      (pss_one (ps_for (passes_of rfl) rfl (pi_list (pe_slice sl_list (pv 2) po_none (po_some (pv 3)))) (pg_name (i := 5) sc_watch.nd rfl (by first | exact Or.inl rfl | exact Or.inr rfl))
      (pss_cons (ps_set (i := 6) sc_watch.nd rfl (by first | exact Or.inl rfl | exact Or.inr rfl) (pe_call (okx_parting T) (hr.mono (by decide)) (by rfl) T.g_parting T.f_parting.kp T.b_parting .nil (L2N.passes_call (L2N.takes_of rfl rfl rfl rfl) fun _ _ _ _ h => h) (pa_cons (pe_ix ix_list (pv 0) (pe_ix ix_tup (pv 4) pe_int (fun _ _ => rfl)) (fun _ _ => rfl)) (pa_cons (pe_ix ix_tup (pv 4) pe_int (fun _ _ => rfl)) (pa_cons (pe_ix ix_list (pv 0) (pe_ix ix_tup (pv 5) pe_int (fun _ _ => rfl)) (fun _ _ => rfl)) (pa_cons (pe_ix ix_tup (pv 5) pe_int (fun _ _ => rfl)) pa_nil))))))
      (pss_one (ps_if (pt_cmpR op_notN (pv 6) pe_non (nomark _)) (pss_one (ps_set (i := 1) sc_watch.nd rfl (by first | exact Or.inl rfl | exact Or.inr rfl) (pe_callB (call_max2 rfl) (by rfl) T.n_max (by decide +kernel) (pa_cons (pv 1) (pa_cons (pv 6) pa_nil))))) pss_nil))))))
      (pss_one (ps_ret (pv 1))))))), ?_⟩
    rcases h with h | h
    · obtain ⟨b, ls, rfl, hs, hb, q⟩ := h
      have b1 := hb.1; have b2 := hb.2.1
      refine ⟨_, rfl, .inl ⟨b, ls, rfl, hs, hb, fun H1 s1 => ⟨_, rfl, b, ls, rfl, s1.seq hs, hb, fun H2 p xs s2 hp0 hp htp => ?_⟩⟩⟩
      have s02 := s1.trans s2
      have lx := htp.len
      rw [List.length_map] at lx
      have l60 := spV_len hb
      refine ⟨_, rfl, p, xs, rfl, SqL.of hp, ?_⟩
      refine for_it (walk_enum (xs := xs)) (fun i σ H' => ∃ y4 y5 y6 y7, σ = [some (.ref b), some (.int (wat ls (spV ls) i : Nat)), some (.ref p), y4, y5, y6, y7] ∧ Same H2 H') ⟨_, _, _, _, rfl, Same.refl _⟩ (fun i σ H' _ h => by obtain ⟨_, _, _, _, _, h⟩ := h; exact SqL.of (h _ _ hp)) (fun i x σ H3 H4 hi h y => ?_) (fun σ H3 h => ?_)
      · obtain ⟨y4, y5, y6, y7, rfl, s3⟩ := h
        obtain ⟨t, x1, x2, rfl, ht0, rfl, e1, e2⟩ := y
        have e1 := Option.some.inj e1
        subst e1
        have hi2 : i < (spV ls).length := by omega
        have ez : (spV ls)[i]? = some ((spV ls).getD i (0, 0)) := by
          rw [List.getD_eq_getElem?_getD, List.getElem?_eq_getElem hi2]
          rfl
        have hw : wat ls (spV ls) (i + 1) = inn ls ((spV ls).getD i (0, 0)) ((spV ls).take i) (wat ls (spV ls) i) := rfl
        generalize (spV ls).getD i (0, 0) = z at ez hw
        obtain ⟨z1, z2⟩ := sp_at ez
        have gz := lt_good hb z1
        obtain ⟨tz, ns, rfl, hns, htz⟩ := (htp.mono s3).get e2
        rw [List.getElem?_map, ez] at hns
        have hns := Option.some.inj hns
        subst hns
        have s4 := same_upd (o := .tup [.int (i : Nat), .ref tz]) ht0
        have hp4 := s4 _ _ (s3 _ _ hp)
        refine ⟨t, _, rfl, SqT.of upd_same, rfl, _, _, rfl, _, _, rfl, rfl, ?_⟩
        refine ⟨_, rfl, _, rfl, _, rfl, p, _, rfl, SqL.of hp4, fun c hc => ⟨c, rfl, ⟨_, SqL.of upd_same⟩, ?_⟩⟩
        rw [cutV_to]
        have s5 := same_upd (o := .lst (xs.take i)) hc
        have s25 := s3.trans (s4.trans s5)
        have htc := ((htp.mono s25).take i)
        have lc := htc.len
        rw [List.length_take, List.length_take, List.length_map] at lc
        refine for_it (walk_list (xs := xs.take i)) (fun j σ H' => ∃ (d : Int) (y5 y6 y7 : Option V), σ = [some (.ref b), some (.int d), some (.ref p), y5, some (.ref tz), y6, y7] ∧ d = (inn ls z (((spV ls).take i).take j) (wat ls (spV ls) i) : Nat) ∧ Same (upd (upd H3 t (.tup [.int (i : Nat), .ref tz])) c (.lst (xs.take i))) H') ⟨_, _, _, _, rfl, rfl, Same.refl _⟩ (fun j σ H' _ h => by obtain ⟨_, _, _, _, _, _, h⟩ := h; exact SqL.of (h _ _ upd_same)) (fun j x σ H5 H6 hj h y => ?_) (fun σ H5 h => ?_)
        · obtain ⟨d, y5, y6, y7, rfl, hd, s6⟩ := h
          obtain ⟨rfl, hx⟩ := y
          obtain ⟨ty, ms, rfl, hms, hty⟩ := (htc.mono s6).get hx
          rw [← List.map_take, List.getElem?_map] at hms
          obtain ⟨v, ev, rfl⟩ := Option.map_eq_some_iff.mp hms
          have hv := List.mem_of_mem_take (List.mem_of_getElem? ev)
          obtain ⟨v1, v2⟩ := mem_spN.mp hv
          have gv := lt_good hb v1
          have s26 := s02.trans (s25.trans s6)
          have htz6 := (s4.trans (s5.trans s6)) _ _ htz
          refine ⟨_, rfl, _, rfl, tz, _, _, .int (z.1 : Int), rfl, rfl, SqT.of htz6, rfl, b, _, _, .str (S (lt ls z.1)), rfl, rfl, s26.seq hs, atN (j := z.1) rfl (tx_at (lt_get z1)), ?_⟩
          refine ⟨_, rfl, tz, _, _, .int (z.2 : Int), rfl, rfl, SqT.of htz6, rfl, ?_⟩
          refine ⟨_, rfl, _, rfl, ty, _, _, .int (v.1 : Int), rfl, rfl, SqT.of hty, rfl, b, _, _, .str (S (lt ls v.1)), rfl, rfl, s26.seq hs, atN (j := v.1) rfl (tx_at (lt_get v1)), ?_⟩
          refine ⟨_, rfl, ty, _, _, .int (v.2 : Int), rfl, rfl, SqT.of hty, rfl, ?_⟩
          refine .inl ⟨lt ls z.1, _, lt ls v.1, _, rfl, gz, gv, fun H7 s7 => ?_⟩
          have hin : inn ls z (((spV ls).take i).take (j + 1)) (wat ls (spV ls) i) = mx (inn ls z (((spV ls).take i).take j) (wat ls (spV ls) i)) (part2 ls z v) := by
            rw [take_snoc ev, inn_snoc]
          have ep : partV (lt ls z.1) z.2 (lt ls v.1) v.2 = part2 ls z v := rfl
          rw [ep]
          generalize part2 ls z v = o at hin
          cases o with
          | none =>
            refine ⟨_, rfl, rfl, _, rfl, ?_⟩
            rw [decide_eq_true (show optV none = .non from rfl)]
            refine ⟨_, _, _, _, rfl, ?_, s6.trans s7⟩
            rw [hin]
            exact hd
          | some n =>
            refine ⟨_, rfl, rfl, _, rfl, ?_⟩
            rw [decide_eq_false (show ¬ optV (some n) = .non from fun z => by cases z)]
            refine ⟨_, rfl, _, rfl, _, _, rfl, ?_⟩
            refine ⟨_, _, _, _, rfl, ?_, s6.trans s7⟩
            rw [hin, hd]
            generalize inn ls z (((spV ls).take i).take j) (wat ls (spV ls) i) = k
            show (if (n : Int) > (k : Int) then (n : Int) else (k : Int)) = ((if n > k then n else k : Nat) : Int)
            by_cases hk : n > k
            · rw [if_pos hk, if_pos (by omega)]
            · rw [if_neg hk, if_neg (by omega)]
        · obtain ⟨d, y5, y6, y7, rfl, hd, s6⟩ := h
          have e : d = (wat ls (spV ls) (i + 1) : Nat) := by
            rw [hd, hw, List.length_take, Nat.min_eq_left (Nat.le_of_lt hi), List.take_of_length_le (by rw [List.length_take]; exact Nat.min_le_left _ _)]
          rw [e]
          exact ⟨_, _, _, _, rfl, s25.trans s6⟩
      · obtain ⟨y4, y5, y6, y7, rfl, s3⟩ := h
        rw [lx]
        exact ⟨_, rfl, q _ (s02.trans s3)⟩
    · obtain ⟨b, ls, C, rfl, h⟩ := h
      exact ⟨_, rfl, .inr ⟨b, ls, C, rfl, h⟩⟩

end
end Lw
namespace Lw
open PySem PySem.Spec PyProof.Rows L2 TL
local macro_rules | `(tactic| walk_at "rd") => `(tactic| (repeat (first | refine ⟨_, rfl, ?_⟩ | refine ⟨_, _, rfl, rfl, ?_⟩ | refine ⟨rfl, ?_⟩ | refine iteT ?_)))
section
variable {P : Program} {w : World} {K : PySem.W.Frag} {mg : Str → Option Value} {base : Heap}
def sp_twins (K : PySem.W.Frag) : Sp := fun vs H Q _ => ∃ (b : Addr) (ls : List (List Nat)), vs = [.ref b] ∧ SqL K H b (tx ls) ∧ Book ls ∧ ∀ H' p xs, Same H H' → H p = none → H' p = some (.lst xs) → Tups H' xs (twV ls) → Q (.ref p) H'
def sx_twins (K : PySem.W.Frag) (T : Txt K mg) : Sp := fun vs H Q E => sp_twins K vs H Q E ∨ (∃ (b : Addr) (ls : List (List Nat)) (C : Addr), vs = [.ref b] ∧ SqL K H b (tx ls) ∧ ls.length ≤ 1000 ∧ (∀ l ∈ ls, l.length ≤ 1000) ∧ BadB T.c_NoBook T.c_NoLight ls C ∧ ∀ H', Same H H' → E (.ref C) none H')
theorem okx_twins (T : Txt K mg) : FnOk P w K mg base (L2N.CX P w) 4 T.a_twins T.d_twins ["book"] (sx_twins K T) := by
  refine okN T.f_twins sc_twins (fun vs H Q E h => ?_) (fun cdv A outer s H vs Q E hr h => ?_)
  · rcases h with h | h
    · obtain ⟨b, ls, rfl, _⟩ := h
      rfl
    · obtain ⟨b, ls, C, rfl, _⟩ := h
      rfl
  · refine ⟨_, (pss_cons (ps_expr (pe_call (okx_asked_book T) (hr.mono (by decide)) (by rfl) T.g_asked_book T.f_asked_book.kp T.b_asked_book .nil (L2N.passes_call (L2N.takes_of rfl rfl rfl rfl) fun _ _ _ _ h => h) (pa_cons (pv 0) pa_nil)))
      (pss_cons (ps_set (i := 1) sc_twins.nd rfl (by first | exact Or.inl rfl | exact Or.inr rfl) (pe_lst pa_nil))
      (pss_cons (ps_for (passes_of rfl) rfl (pi_range1 (by rfl) T.n_range (pa_cons (pe_callB call_lenL (by rfl) T.n_len PySem.boot_len (pa_cons (pv 0) pa_nil)) pa_nil)) (pg_name (i := 2) sc_twins.nd rfl (by first | exact Or.inl rfl | exact Or.inr rfl))
      (pss_one (ps_for (passes_of rfl) rfl (pi_range2 (by rfl) T.n_range (pa_cons (pe_op op_add (pv 2) pe_int) (pa_cons (pe_callB call_lenL (by rfl) T.n_len PySem.boot_len (pa_cons (pv 0) pa_nil)) pa_nil))) (pg_name (i := 3) sc_twins.nd rfl (by first | exact Or.inl rfl | exact Or.inr rfl))
      (pss_cons (ps_set (i := 4) sc_twins.nd rfl (by first | exact Or.inl rfl | exact Or.inr rfl) (pe_call (okx_turn T) (hr.mono (by decide)) (by rfl) T.g_turn T.f_turn.kp T.b_turn .nil (L2N.passes_call (L2N.takes_of rfl rfl rfl rfl) fun _ _ _ _ h => h) (pa_cons (pe_ix ix_list (pv 0) (pv 2) (fun _ _ => rfl)) (pa_cons (pe_ix ix_list (pv 0) (pv 3) (fun _ _ => rfl)) pa_nil))))
      (pss_one (ps_if (pt_cmpR op_notN (pv 4) pe_non (nomark _)) (pss_one (ps_expr (pe_bm PySem.F.plainAttrs_list PySem.F.slot_list_append PySem.F.type_list_append mt_append (pv 1) (pa_cons (pe_tup (pa_cons (pv 2) (pa_cons (pv 3) (pa_cons (pv 4) pa_nil)))) pa_nil)))) pss_nil))))))
      (pss_one (ps_ret (pv 1)))))), ?_⟩
    rcases h with h | h
    · obtain ⟨b, ls, rfl, hs, hb, q⟩ := h
      have b1 := hb.1; have b2 := hb.2.1
      have hlen : (tx ls).length = ls.length := List.length_map _
      refine ⟨_, rfl, .inl ⟨b, ls, rfl, hs, hb, fun H1 s1 => ⟨line_of (by show 0 ≤ 100000; decide), fun f hf => ?_⟩⟩⟩
      have hf0 := same_none s1 hf
      have s2 := s1.trans (same_upd (o := .lst []) hf)
      refine ⟨_, rfl, b, _, rfl, s2.seq hs, _, rfl, by omega, by omega, ?_⟩
      refine for_it walkR (fun i σ H' => ∃ y2 y3 y4 xs, σ = [some (.ref b), some (.ref f), y2, y3, y4] ∧ H' f = some (.lst xs) ∧ Tups H' xs (twN ls i) ∧ Same H H') ⟨_, _, _, [], rfl, upd_same, .nil, s2⟩ (fun _ _ _ _ _ => trivial) (fun i x σ H3 H4 hi h y => ?_) (fun σ H3 h => ?_)
      · obtain ⟨y2, y3, y4, xs, rfl, hf3, ht3, s3⟩ := h
        obtain ⟨rfl, rfl⟩ := y
        have hil : i < ls.length := by omega
        have gi := lt_good hb hil
        have lN := twN_len ls i
        have lN2 : i * ls.length ≤ 5 * 5 := Nat.mul_le_mul (by omega) b2
        refine ⟨_, rfl, _, _, rfl, rfl, _, rfl, b, _, rfl, s3.seq hs, _, _, rfl, ⟨by omega, by omega, by omega, by omega⟩, ?_⟩
        refine for_it walk_range (fun j σ H' => ∃ y3 y4 xs, σ = [some (.ref b), some (.ref f), some (.int (i : Nat)), y3, y4] ∧ H' f = some (.lst xs) ∧ Tups H' xs (twN ls i ++ twI ls i j) ∧ Same H H') ⟨_, _, xs, rfl, hf3, by rw [show twI ls i 0 = [] from rfl, List.append_nil]; exact ht3, s3⟩ (fun _ _ _ _ _ => trivial) (fun j x σ H5 H6 hj h y => ?_) (fun σ H5 h => ?_)
        · obtain ⟨y3, y4, xs, rfl, hf5, ht5, s5⟩ := h
          obtain ⟨rfl, rfl⟩ := y
          have hjl : i + 1 + j < ls.length := by omega
          have gj := lt_good hb hjl
          refine ⟨_, rfl, _, rfl, b, _, _, .str (S (lt ls i)), rfl, rfl, s5.seq hs, atN (j := i) rfl (tx_at (lt_get hil)), ?_⟩
          refine ⟨_, rfl, _, rfl, b, _, _, .str (S (lt ls (i + 1 + j))), rfl, rfl, s5.seq hs, atN (j := i + 1 + j) (by omega) (tx_at (lt_get hjl)), ?_⟩
          refine .inl ⟨lt ls i, lt ls (i + 1 + j), rfl, gi, gj, fun H7 s7 => ?_⟩
          have e := twI_succ ls i j
          cases et : turnV (lt ls i) (lt ls (i + 1 + j)) with
          | none =>
            refine ⟨_, rfl, rfl, _, rfl, ?_⟩
            rw [decide_eq_true (show optV none = .non from rfl)]
            rw [et] at e
            refine ⟨_, _, xs, rfl, s7 _ _ hf5, ?_, s5.trans s7⟩
            rw [e, List.append_nil]
            exact ht5.mono s7
          | some m =>
            refine ⟨_, rfl, rfl, _, rfl, ?_⟩
            rw [decide_eq_false (show ¬ optV (some m) = .non from fun z => by cases z)]
            rw [et] at e
            have hf7 := s7 _ _ hf5
            refine ⟨_, rfl, .inl ⟨rfl, _, SqL.of hf7⟩, _, rfl, _, rfl, _, rfl, line_of (by show 3 ≤ 100000; decide), fun t ht => ?_⟩
            have s8 := same_upd (o := .tup [.int (i : Nat), .int ((i : Int) + 1 + (j : Nat)), .int (m : Nat)]) ht
            have hf8 := s8 _ _ hf7
            have lx := ht5.len
            have lI := twI_len ls i j
            rw [List.length_append] at lx
            refine ⟨_, _, _, rfl, rfl, hf8, line_lt (by omega), _, _, _, rfl, upd_same, ?_, Same_mut (s5.trans (s7.trans s8)) hf0⟩
            rw [e, ← List.append_assoc]
            refine ((ht5.mono (s7.trans s8)).wrote hf8).app (Tups.wrote hf8 (.one ?_))
            rw [upd_same]
            show some (HO.tup [V.int _, V.int _, V.int _]) = some (HO.tup [V.int _, V.int _, V.int _])
            rw [show ((i + 1 + j : Nat) : Int) = (i : Int) + 1 + (j : Nat) by omega]
        · obtain ⟨y3, y4, xs, rfl, hf5, ht5, s5⟩ := h
          refine ⟨_, _, _, xs, rfl, hf5, ?_, s5⟩
          rw [twN_succ]
          have : (((tx ls).length : Int) - ((i : Int) + 1)).toNat = ls.length - (i + 1) := by omega
          rw [this] at ht5
          exact ht5
      · obtain ⟨y2, y3, y4, xs, rfl, hf3, ht3, s3⟩ := h
        rw [Int.toNat_natCast, hlen] at ht3
        exact ⟨_, rfl, q _ f xs s3 hf0 hf3 ht3⟩
    · obtain ⟨b, ls, C, rfl, h⟩ := h
      exact ⟨_, rfl, .inr ⟨b, ls, C, rfl, h⟩⟩

end
end Lw
namespace Lw
open PySem PySem.Spec PyProof.Rows L2 TL
local macro_rules | `(tactic| walk_at "rd") => `(tactic| (repeat (first | refine ⟨_, rfl, ?_⟩ | refine ⟨_, _, rfl, rfl, ?_⟩ | refine ⟨rfl, ?_⟩ | refine iteT ?_)))
section
variable {P : Program} {w : World} {K : PySem.W.Frag} {mg : Str → Option Value} {base : Heap}
def sp_fits (K : PySem.W.Frag) : Sp := fun vs H Q _ => ∃ (b : Addr) (ls : List (List Nat)) (s : List Nat), vs = [.ref b, .str (S s)] ∧ SqL K H b (tx ls) ∧ Book ls ∧ s.length ≤ 100 ∧ (∀ c ∈ s, isSign c = true) ∧ fitV ls s ≠ [] ∧ ∀ H' p xs, Same H H' → H p = none → H' p = some (.lst xs) → Tups H' xs ((fitV ls s).map pr) → Q (.ref p) H'
def sx_fits (K : PySem.W.Frag) (T : Txt K mg) : Sp := fun vs H Q E => sp_fits K vs H Q E ∨ (∃ (b : Addr) (ls : List (List Nat)) (s : List Nat), vs = [.ref b, .str (S s)] ∧ SqL K H b (tx ls) ∧ ls.length ≤ 1000 ∧ (∀ l ∈ ls, l.length ≤ 1000) ∧ s.length ≤ 1000 ∧ ((∃ C, BadB T.c_NoBook T.c_NoLight ls C ∧ ∀ H', Same H H' → E (.ref C) none H') ∨ (Book ls ∧ BadS s ∧ ∀ H', Same H H' → E (.ref T.c_NoSight) none H')))
theorem okx_fits (T : Txt K mg) : FnOk P w K mg base (L2N.CX P w) 5 T.a_fits T.d_fits ["book", "sight"] (sx_fits K T) := by
  refine okN T.f_fits sc_fits (fun vs H Q E h => ?_) (fun cdv A outer s H vs Q E hr h => ?_)
  · rcases h with h | h
    · obtain ⟨b, ls, s, rfl, _⟩ := h
      rfl
    · obtain ⟨b, ls, s, rfl, _⟩ := h
      rfl
  · refine ⟨_, (pss_cons (ps_set (i := 2) sc_fits.nd rfl (by first | exact Or.inl rfl | exact Or.inr rfl) (pe_call (okx_fitting T) (hr.mono (by decide)) (by rfl) T.g_fitting T.f_fitting.kp T.b_fitting .nil (L2N.passes_call (L2N.takes_of rfl rfl rfl rfl) fun _ _ _ _ h => h) (pa_cons (pv 0) (pa_cons (pv 1) pa_nil))))
      (pss_cons (ps_if (pt_cmpR op_eqI (pe_callB call_lenL (by rfl) T.n_len PySem.boot_len (pa_cons (pv 2) pa_nil)) pe_int (nomark _)) (pss_one ps_never) pss_nil)
      (pss_one (ps_ret (pv 2))))), ?_⟩
    rcases h with h | h
    · obtain ⟨b, ls, s, rfl, hs, hb, hz, hg, hne, q⟩ := h
      refine ⟨_, rfl, _, rfl, .inl ⟨b, ls, s, rfl, hs, hb, hz, hg, fun H1 p xs s1 hp0 hp htp => ?_⟩⟩
      have lx := htp.len
      rw [List.length_map] at lx
      have hpos : 0 < (fitV ls s).length := List.length_pos_iff.mpr hne
      refine ⟨_, rfl, p, xs, rfl, SqL.of hp, _, _, rfl, rfl, _, rfl, ?_⟩
      rw [decide_eq_false (show ¬ (xs.length : Int) = 0 by omega)]
      exact ⟨_, rfl, q H1 p xs s1 hp0 hp htp⟩
    · obtain ⟨b, ls, s, rfl, h⟩ := h
      exact ⟨_, rfl, _, rfl, .inr ⟨b, ls, s, rfl, h⟩⟩

end
end Lw
namespace Lw
open PySem PySem.Spec PyProof.Rows L2 TL
local macro_rules | `(tactic| walk_at "rd") => `(tactic| (repeat (first | refine ⟨_, rfl, ?_⟩ | refine ⟨_, _, rfl, rfl, ?_⟩ | refine ⟨rfl, ?_⟩ | refine iteT ?_)))
section
variable {P : Program} {w : World} {K : PySem.W.Frag} {mg : Str → Option Value} {base : Heap}
def sp_sure (K : PySem.W.Frag) : Sp := fun vs H Q _ => ∃ (b : Addr) (ls : List (List Nat)) (s : List Nat), vs = [.ref b, .str (S s)] ∧ SqL K H b (tx ls) ∧ Book ls ∧ s.length ≤ 100 ∧ (∀ c ∈ s, isSign c = true) ∧ fitV ls s ≠ [] ∧ ∀ H', Same H H' → Q (optV (sureV ls s)) H'
def sx_sure (K : PySem.W.Frag) (T : Txt K mg) : Sp := fun vs H Q E => sp_sure K vs H Q E ∨ (∃ (b : Addr) (ls : List (List Nat)) (s : List Nat), vs = [.ref b, .str (S s)] ∧ SqL K H b (tx ls) ∧ ls.length ≤ 1000 ∧ (∀ l ∈ ls, l.length ≤ 1000) ∧ s.length ≤ 1000 ∧ ((∃ C, BadB T.c_NoBook T.c_NoLight ls C ∧ ∀ H', Same H H' → E (.ref C) none H') ∨ (Book ls ∧ BadS s ∧ ∀ H', Same H H' → E (.ref T.c_NoSight) none H')))
theorem okx_sure (T : Txt K mg) : FnOk P w K mg base (L2N.CX P w) 6 T.a_sure T.d_sure ["book", "sight"] (sx_sure K T) := by
  refine okN T.f_sure sc_sure (fun vs H Q E h => ?_) (fun cdv A outer s H vs Q E hr h => ?_)
  · rcases h with h | h
    · obtain ⟨b, ls, s, rfl, _⟩ := h
      rfl
    · obtain ⟨b, ls, s, rfl, _⟩ := h
      rfl
  · refine ⟨_, (pss_cons (ps_setLc (i := 2) (own := [("spot", 3)]) (g := gName 3) (by rfl) sc_sure.nd rfl rfl (sw_true rfl rfl rfl (by decide +kernel)) (pi_list (pe_call (okx_fits T) (hr.mono (by decide)) (by rfl) T.g_fits T.f_fits.kp T.b_fits .nil (L2N.passes_call (L2N.takes_of rfl rfl rfl rfl) fun _ _ _ _ h => h) (pa_cons (pv 0) (pa_cons (pv 1) pa_nil)))) (blkOk_by (own := [("spot", 3)]) (N := ["book", "sight", "numbers", "spot"]) (sc := defScope s_sure) (by decide +kernel)) (fun _ _ _ _ _ => (pg_name (i := 3) sc_sure.nd rfl (by first | exact Or.inl rfl | exact Or.inr rfl))) (fun _ _ _ _ _ => pts_nil) (fun _ _ _ _ _ => (pe_ix (ixK (K := K) (r := rIxT) rfl ix_tup) (pv 3) pe_int (fun _ _ => rfl))))
      (pss_cons (ps_if (pt_cmpR op_eqI (pe_ix ix_list (pv 2) pe_int (fun _ _ => rfl)) (pe_ix ix_list (pv 2) (pe_un un_neg pe_int) (fun _ _ => rfl)) (nomark _)) (pss_one (ps_ret (pe_ix ix_list (pv 2) pe_int (fun _ _ => rfl)))) pss_nil)
      (pss_one (ps_ret pe_non)))), ?_⟩
    rcases h with h | h
    · obtain ⟨b, ls, s, rfl, hs, hb, hz, hg, hne, q⟩ := h
      refine ⟨_, rfl, _, rfl, .inl ⟨b, ls, s, rfl, hs, hb, hz, hg, hne, fun H1 p xs s1 hp0 hp htp => ⟨p, rfl, ⟨_, SqL.of hp⟩, fun D hD => ?_⟩⟩⟩
      have lx := htp.len
      rw [List.length_map] at lx
      have l60 := fitV_len hb s
      have hv : sureV ls s = match fitV ls s with
        | [] => none
        | z :: zs => if z.1 = ((z :: zs).getLast (List.cons_ne_nil _ _)).1 then some z.1 else none := rfl
      generalize fitV ls s = fl at htp lx l60 hv hne
      refine lc_map (walk_list (xs := xs)) (fun _ => true) (fun i => .int ((fl.getD i (0, 0)).1 : Nat)) (by omega) hD (fun H' s' => SqL.of (s' _ _ hp)) (fun i x H H' y => y.1 ▸ Same.refl _) (fun i x H5 H6 hi s5 y k k' hk hk' => ?_) (fun H7 s7 e => ?_)
      · obtain ⟨rfl, hx⟩ := y
        obtain ⟨t, ns, rfl, hns, ht⟩ := (htp.mono s5).get hx
        rw [List.getElem?_map] at hns
        obtain ⟨z, ez, rfl⟩ := Option.map_eq_some_iff.mp hns
        have hk := hk rfl _ (Same.refl _)
        rw [getD_at ez] at hk
        exact ⟨rfl, _, rfl, t, _, _, .int (z.1 : Int), rfl, rfl, SqT.of ht, rfl, hk⟩
      · rw [given_all, lx] at e
        have e2 : (List.range fl.length).map (fun i => V.int ((fl.getD i (0, 0)).1 : Nat)) = fl.map fun z => V.int (z.1 : Nat) := by
          have := range_getD fl (0, 0)
          have h2 := congrArg (List.map fun z : Nat × Nat => V.int (z.1 : Nat)) this
          rw [List.map_map] at h2
          exact h2
        rw [e2] at e
        have s17 := s1.trans s7
        cases fl with
        | nil => exact absurd rfl hne
        | cons z zs =>
          have hlast : atI ((z :: zs).map fun z => V.int (z.1 : Nat)) (-1) = some (V.int (((z :: zs).getLast (List.cons_ne_nil _ _)).1 : Nat)) := by
            have h1 := List.dropLast_concat_getLast (List.cons_ne_nil z zs)
            have h2 := congrArg (List.map fun z : Nat × Nat => V.int (z.1 : Nat)) h1
            rw [List.map_append] at h2
            rw [← h2]
            exact atI_last _ _
          refine ⟨_, rfl, D, _, _, .int (z.1 : Nat), rfl, rfl, SqL.of e, atN (j := 0) rfl rfl, _, rfl, _, rfl, D, _, _, _, rfl, rfl, SqL.of e, hlast, _, _, rfl, rfl, _, rfl, ite2 (fun h => ?_) (fun h => ?_)⟩
          · have h : ((z.1 : Nat) : Int) = ((((z :: zs).getLast (List.cons_ne_nil _ _)).1 : Nat) : Int) := of_decide_eq_true h
            have hv : sureV ls s = some z.1 := hv.trans (if_pos (by omega))
            have q' := q H7 s17
            rw [hv] at q'
            exact ⟨_, rfl, D, _, _, .int (z.1 : Nat), rfl, rfl, SqL.of e, atN (j := 0) rfl rfl, q'⟩
          · have h : ¬ ((z.1 : Nat) : Int) = ((((z :: zs).getLast (List.cons_ne_nil _ _)).1 : Nat) : Int) := fun q => h (decide_eq_true q)
            have hv : sureV ls s = none := hv.trans (if_neg (by omega))
            have q' := q H7 s17
            rw [hv] at q'
            exact q'
    · obtain ⟨b, ls, s, rfl, h⟩ := h
      exact ⟨_, rfl, _, rfl, .inr ⟨b, ls, s, rfl, h⟩⟩

end
end Lw
namespace Lw
open PySem PySem.Spec PyProof.Rows L2 TL
local macro_rules | `(tactic| walk_at "rd") => `(tactic| (repeat (first | refine ⟨_, rfl, ?_⟩ | refine ⟨_, _, rfl, rfl, ?_⟩ | refine ⟨rfl, ?_⟩ | refine iteT ?_)))
section
variable {P : Program} {w : World} {K : PySem.W.Frag} {mg : Str → Option Value} {base : Heap}
theorem come_mem {ls : List (List Nat)} {s : List Nat} (c : Nat) : decide ([c] ∈ (fitV ls s).map fun z => [sg (lt ls z.1) ((z.2 : Int) + (s.length : Int))]) = decide (∃ z ∈ fitV ls s, sg (lt ls z.1) ((z.2 : Int) + (s.length : Int)) = c) := by
  rw [decide_eq_decide, List.mem_map]
  constructor
  · rintro ⟨z, h1, h2⟩
    exact ⟨z, h1, by simpa using h2⟩
  · rintro ⟨z, h1, h2⟩
    exact ⟨z, h1, by rw [h2]⟩
def sp_coming (K : PySem.W.Frag) : Sp := fun vs H Q _ => ∃ (b : Addr) (ls : List (List Nat)) (s : List Nat), vs = [.ref b, .str (S s)] ∧ SqL K H b (tx ls) ∧ Book ls ∧ s.length ≤ 100 ∧ (∀ c ∈ s, isSign c = true) ∧ fitV ls s ≠ [] ∧ ∀ H', Same H H' → Q (.str (S (comeV ls s))) H'
def sx_coming (K : PySem.W.Frag) (T : Txt K mg) : Sp := fun vs H Q E => sp_coming K vs H Q E ∨ (∃ (b : Addr) (ls : List (List Nat)) (s : List Nat), vs = [.ref b, .str (S s)] ∧ SqL K H b (tx ls) ∧ ls.length ≤ 1000 ∧ (∀ l ∈ ls, l.length ≤ 1000) ∧ s.length ≤ 1000 ∧ ((∃ C, BadB T.c_NoBook T.c_NoLight ls C ∧ ∀ H', Same H H' → E (.ref C) none H') ∨ (Book ls ∧ BadS s ∧ ∀ H', Same H H' → E (.ref T.c_NoSight) none H')))
theorem okx_coming (T : Txt K mg) : FnOk P w K mg base (L2N.CX P w) 6 T.a_coming T.d_coming ["book", "sight"] (sx_coming K T) := by
  refine okN T.f_coming sc_coming (fun vs H Q E h => ?_) (fun cdv A outer s H vs Q E hr h => ?_)
  · rcases h with h | h
    · obtain ⟨b, ls, s, rfl, _⟩ := h
      rfl
    · obtain ⟨b, ls, s, rfl, _⟩ := h
      rfl
  · refine ⟨_, (pss_cons (ps_set (i := 2) sc_coming.nd rfl (by first | exact Or.inl rfl | exact Or.inr rfl) (pe_lc (own := [("number", 3), ("moment", 4)]) (g := gTup K 2 (gCons (gName 3) (gCons (gName 4) gNil))) (by rfl) sc_coming.nd (pi_list (pe_call (okx_fits T) (hr.mono (by decide)) (by rfl) T.g_fits T.f_fits.kp T.b_fits .nil (L2N.passes_call (L2N.takes_of rfl rfl rfl rfl) fun _ _ _ _ h => h) (pa_cons (pv 0) (pa_cons (pv 1) pa_nil)))) (blkOk_by (own := [("number", 3), ("moment", 4)]) (N := ["book", "sight", "next_signs", "number", "moment", "sign"]) (sc := defScope s_coming) (by decide +kernel)) (fun _ _ _ _ _ => (pg_tup rfl (pgs_cons (pg_name (i := 3) sc_coming.nd rfl (by first | exact Or.inl rfl | exact Or.inr rfl)) (pgs_cons (pg_name (i := 4) sc_coming.nd rfl (by first | exact Or.inl rfl | exact Or.inr rfl)) pgs_nil)))) (fun _ _ _ _ _ => pts_nil) (fun _ _ _ _ _ => (pe_call (ok_showing T) (hr.mono (by decide)) (by rfl) T.g_showing T.f_showing.kp T.b_showing .nil pass0 (pa_cons (pe_ix (ixK (K := K) (r := rIxL) rfl ix_list) (pv 0) (pv 3) (fun _ _ => rfl)) (pa_cons (pe_op op_add (pv 4) (pe_callB call_lenS (by rfl) T.n_len PySem.boot_len (pa_cons (pv 1) pa_nil))) (pa_cons pe_int pa_nil)))))))
      (pss_one (ps_ret (pe_joinS (pe_S (l := []) (by decide +kernel)) (pe_lc (own := [("sign", 5)]) (g := gName 5) (by rfl) sc_coming.nd (pi_str (pe_S (l := [46, 111]) (by decide +kernel))) (blkOk_by (own := [("sign", 5)]) (N := ["book", "sight", "next_signs", "number", "moment", "sign"]) (sc := defScope s_coming) (by decide +kernel)) (fun _ _ _ _ _ => (pg_name (i := 5) sc_coming.nd rfl (by first | exact Or.inl rfl | exact Or.inr rfl))) (fun _ _ _ _ _ => (pts_one (pt_cmpR (opK (K := K) (r := rInL) rfl op_inL) (pv 5) (pv 2) (by rfl)))) (fun _ _ _ _ _ => (pv 5))))))), ?_⟩
    rcases h with h | h
    · obtain ⟨b, ls, s, rfl, hs, hb, hz, hg, hne, q⟩ := h
      refine ⟨_, rfl, _, rfl, .inl ⟨b, ls, s, rfl, hs, hb, hz, hg, hne, fun H1 p xs s1 hp0 hp htp => ⟨p, rfl, ⟨_, SqL.of hp⟩, fun D hD => ?_⟩⟩⟩
      have lx := htp.len
      rw [List.length_map] at lx
      have l60 := fitV_len hb s
      have key : ∀ z ∈ fitV ls s, z.1 < ls.length := fun z hz => (mem_fitV.mp hz).1.1
      refine lc_map (walk_list (xs := xs)) (fun _ => true) (fun i => .str (S [sg (lt ls ((fitV ls s).getD i (0, 0)).1) ((((fitV ls s).getD i (0, 0)).2 : Int) + (s.length : Int))])) (by omega) hD (fun H' s' => SqL.of (s' _ _ hp)) (fun i x H H' y => y.1 ▸ Same.refl _) (fun i x H5 H6 hi s5 y k k' hk hk' => ?_) (fun H7 s7 e => ?_)
      · obtain ⟨rfl, hx⟩ := y
        obtain ⟨t, ns, rfl, hns, ht⟩ := (htp.mono s5).get hx
        rw [List.getElem?_map] at hns
        obtain ⟨z, ez, rfl⟩ := Option.map_eq_some_iff.mp hns
        have hk := hk rfl
        rw [getD_at ez] at hk
        have z1 := key z (List.mem_of_getElem? ez)
        have gz := lt_good hb z1
        have g1 := gz.1; have g2 := gz.2.1
        refine ⟨t, _, rfl, SqT.of ht, rfl, _, _, rfl, _, _, rfl, rfl, rfl, ?_⟩
        refine ⟨_, rfl, _, rfl, b, _, _, .str (S (lt ls z.1)), rfl, rfl, (s1.trans s5).seq hs, atN (j := z.1) rfl (tx_at (lt_get z1)), _, rfl, _, rfl, s, rfl, by omega, _, _, rfl, rfl, ?_⟩
        refine ⟨lt ls z.1, (z.2 : Int) + (s.length : Int), 1, rfl, g1, by omega, by decide, by decide, fun H8 s8 => ?_⟩
        have e1 : sight (lt ls z.1) ((z.2 : Int) + (s.length : Int)) (1 : Int).toNat = [sg (lt ls z.1) ((z.2 : Int) + (s.length : Int))] := by
          show [sg (lt ls z.1) ((z.2 : Int) + (s.length : Int) + ((0 : Nat) : Int))] = _
          rw [show ((0 : Nat) : Int) = 0 from rfl, Int.add_zero]
        rw [e1]
        exact hk H8 s8
      · rw [given_all, lx] at e
        have e2 : (List.range (fitV ls s).length).map (fun i => V.str (S [sg (lt ls ((fitV ls s).getD i (0, 0)).1) ((((fitV ls s).getD i (0, 0)).2 : Int) + (s.length : Int))])) = tx ((fitV ls s).map fun z => [sg (lt ls z.1) ((z.2 : Int) + (s.length : Int))]) := by
          have := range_getD (fitV ls s) (0, 0)
          have h2 := congrArg (List.map fun z : Nat × Nat => V.str (S [sg (lt ls z.1) ((z.2 : Int) + (s.length : Int))])) this
          rw [List.map_map] at h2
          unfold tx
          rw [List.map_map]
          exact h2
        rw [e2] at e
        have s17 := s1.trans s7
        refine ⟨⟨_, rfl⟩, _, rfl, fun E2 hE => ?_⟩
        refine lc_map walkS (fun i => decide (∃ z ∈ fitV ls s, sg (lt ls z.1) ((z.2 : Int) + (s.length : Int)) = ([46, 111] : List Nat).getD i 0)) (fun i => .str (S [([46, 111] : List Nat).getD i 0])) (by decide) hE (fun _ _ => trivial) (fun i x H H' y => y.1 ▸ Same.refl _) (fun i x H8 H9 hi s8 y k k' hk hk' => ?_) (fun H8 s8 e8 => ?_)
        · obtain ⟨rfl, c, hc, rfl⟩ := y
          rw [getD_at hc] at hk hk'
          refine ⟨rfl, _, rfl, _, rfl, [c], D, _, rfl, rfl, SqL.of (s8 _ _ e), _, rfl, ?_⟩
          rw [come_mem]
          refine ite2 (fun h => ?_) (fun h => ?_)
          · exact ⟨_, rfl, hk h _ (Same.refl _)⟩
          · exact hk' (Bool.eq_false_iff.mpr h) _ (Same.refl _)
        · unfold given at e8
          have e9 := filt_range ([46, 111] : List Nat) 0 (fun c => decide (∃ z ∈ fitV ls s, sg (lt ls z.1) ((z.2 : Int) + (s.length : Int)) = c)) (fun c => V.str (S [c]))
          rw [e9] at e8
          have l2 : (comeV ls s).length ≤ 2 := List.length_filter_le _ _
          refine ⟨[], E2, (comeV ls s).map fun c => [c], rfl, rfl, ?_, ?_, ?_⟩
          · refine SqL.of ?_
            rw [e8, tx, List.map_map]
            rfl
          · rw [sum_ones, List.length_map]
            show (comeV ls s).length + (comeV ls s).length * 0 ≤ 100000
            omega
          · rw [joinL_nil, flat_ones (fun c => c), List.map_id']
            exact q H8 (s17.trans s8)
    · obtain ⟨b, ls, s, rfl, h⟩ := h
      exact ⟨_, rfl, _, rfl, .inr ⟨b, ls, s, rfl, h⟩⟩

end
end Lw
namespace Lw
open PySem PySem.Spec PyProof.Rows L2 TL
local macro_rules | `(tactic| walk_at "rd") => `(tactic| (repeat (first | refine ⟨_, rfl, ?_⟩ | refine ⟨_, _, rfl, rfl, ?_⟩ | refine ⟨rfl, ?_⟩ | refine iteT ?_)))
section
variable {P : Program} {w : World} {K : PySem.W.Frag} {mg : Str → Option Value} {base : Heap}
def sp_shown (K : PySem.W.Frag) : Sp := fun vs H Q _ => ∃ (b : Addr) (ls : List (List Nat)), vs = [.ref b] ∧ SqL K H b (tx ls) ∧ Book ls ∧ ∀ H', Same H H' → Q (.str (S (joinL [47] ls))) H'
def sx_shown (K : PySem.W.Frag) (T : Txt K mg) : Sp := fun vs H Q E => sp_shown K vs H Q E ∨ (∃ (b : Addr) (ls : List (List Nat)) (C : Addr), vs = [.ref b] ∧ SqL K H b (tx ls) ∧ ls.length ≤ 1000 ∧ (∀ l ∈ ls, l.length ≤ 1000) ∧ BadB T.c_NoBook T.c_NoLight ls C ∧ ∀ H', Same H H' → E (.ref C) none H')
theorem okx_shown (T : Txt K mg) : FnOk P w K mg base (L2N.CX P w) 4 T.a_shown T.d_shown ["book"] (sx_shown K T) := by
  refine okN T.f_shown sc_shown (fun vs H Q E h => ?_) (fun cdv A outer s H vs Q E hr h => ?_)
  · rcases h with h | h
    · obtain ⟨b, ls, rfl, _⟩ := h
      rfl
    · obtain ⟨b, ls, C, rfl, _⟩ := h
      rfl
  · refine ⟨_, (pss_cons (ps_expr (pe_call (okx_asked_book T) (hr.mono (by decide)) (by rfl) T.g_asked_book T.f_asked_book.kp T.b_asked_book .nil (L2N.passes_call (L2N.takes_of rfl rfl rfl rfl) fun _ _ _ _ h => h) (pa_cons (pv 0) pa_nil)))
      (pss_one (ps_ret (pe_joinS (pe_S (l := [47]) (by decide +kernel)) (pv 0))))), ?_⟩
    rcases h with h | h
    · obtain ⟨b, ls, rfl, hs, hb, q⟩ := h
      refine ⟨_, rfl, .inl ⟨b, ls, rfl, hs, hb, fun H1 s1 => ?_⟩⟩
      refine ⟨⟨_, rfl⟩, _, rfl, [47], b, ls, rfl, rfl, s1.seq hs, ?_, q H1 s1⟩
      have := book_sum hb
      have := hb.2.1
      show (ls.map List.length).sum + ls.length * 1 ≤ 100000
      omega
    · obtain ⟨b, ls, C, rfl, h⟩ := h
      exact ⟨_, rfl, .inr ⟨b, ls, C, rfl, h⟩⟩

end
end Lw
namespace Lw
open PySem PySem.Spec PyProof.Rows L2 TL
local macro_rules | `(tactic| walk_at "rd") => `(tactic| (repeat (first | refine ⟨_, rfl, ?_⟩ | refine ⟨_, _, rfl, rfl, ?_⟩ | refine ⟨rfl, ?_⟩ | refine iteT ?_)))
section
variable {P : Program} {w : World} {K : PySem.W.Frag} {mg : Str → Option Value} {base : Heap}
def sp__law_cell_at (K : PySem.W.Frag) : Sp := fun vs H Q _ => ∃ (a : Addr) (ns : List Int) (k : Int), vs = [.ref a, .int k] ∧ SqL K H a (ns.map V.int) ∧ 0 ≤ k ∧ ∀ v H', Same H H' → Q (.int v) H'
theorem ok__law_cell_at (T : Txt K mg) : FnOk P w K mg base CX0 1 T.a__law_cell_at T.d__law_cell_at ["script", "k"] (sp__law_cell_at K) := by
  refine T.f__law_cell_at.ok sc__law_cell_at (fun vs H Q E h => ?_) (fun cdv A outer s H vs Q E hr h => ?_)
  · obtain ⟨a, ns, k, rfl, _⟩ := h
    rfl
  · obtain ⟨a, ns, k, rfl, hs, h0, q⟩ := h
    refine ⟨_, (pss_cons (ps_if (pt_cmpR op_lt (pv 1) (pe_callB call_lenL (by rfl) T.n_len PySem.boot_len (pa_cons (pv 0) pa_nil)) (nomark _)) (pss_one (ps_ret (pe_ix ix_list (pv 0) (pv 1) (fun _ _ => rfl)))) pss_nil)
      (pss_one (ps_ret pe_int))), ?_⟩
    refine ⟨_, rfl, _, rfl, a, _, rfl, hs, _, _, rfl, rfl, _, rfl, ite2 (fun h => ?_) (fun h => ?_)⟩
    · have h := of_decide_eq_true h
      rw [List.length_map] at h
      have hk : k.toNat < ns.length := by omega
      refine ⟨_, rfl, _, rfl, a, _, _, .int ns[k.toNat], rfl, rfl, hs, ?_, q _ _ (Same.refl _)⟩
      refine at_of (j := k.toNat) (by omega) ?_
      rw [List.getElem?_map, List.getElem?_eq_getElem hk]
      rfl
    · exact q _ _ (Same.refl _)

end
end Lw
namespace Lw
open PySem PySem.Spec PyProof.Rows L2 TL
local macro_rules | `(tactic| walk_at "rd") => `(tactic| (repeat (first | refine ⟨_, rfl, ?_⟩ | refine ⟨_, _, rfl, rfl, ?_⟩ | refine ⟨rfl, ?_⟩ | refine iteT ?_)))
section
variable {P : Program} {w : World} {K : PySem.W.Frag} {mg : Str → Option Value} {base : Heap}
def sp__law_word_of (K : PySem.W.Frag) (T : Txt K mg) : Addr → Value → Option Addr → Sp := fun a c d vs H Q _ => ∃ (D : Addr) (i : Nat), vs = [.ref a] ∧ c = .ref D ∧ d = none ∧ i < 6 ∧ Word K T.c_NoLight T.c_NoBook T.c_NoSight T.c_NoFit T.c_TooLong T.c_NoNote D i ∧ ∀ H', Same H H' → Q (.str (S (words.getD i []))) H'
theorem ok__law_word_of (T : Txt K mg) : FnE P w K mg base 1 T.a__law_word_of T.d__law_word_of ["e"] (sp__law_word_of K T) := by
  refine fnE_of T.f__law_word_of sc__law_word_of (fun a c d vs H Q E h => ?_) (fun cdv A outer s H vs Q p c d hot zn hr h => ?_)
  · obtain ⟨D, i, rfl, _⟩ := h
    rfl
  · obtain ⟨D, i, rfl, rfl, rfl, hi, W, q⟩ := h
    have hd : ∃ vs, p.2.data = .fields vs := by obtain ⟨_, vs, e, _⟩ := hot; exact ⟨vs, e⟩
    refine ⟨_, (pss_cons (ps_set (i := 1) sc__law_word_of.nd rfl (by first | exact Or.inl rfl | exact Or.inr rfl) (pe_lst (pa_cons (pe_callB (call_isP (p := p) (List.mem_cons_self ..) W.exc zn hd) (by rfl) T.n_isinstance (by decide +kernel) (pa_cons (pv 0) (pa_cons (pe_glob (v := .ref T.c_NoLight) (by rfl) T.g_NoLight rfl) pa_nil))) (pa_cons (pe_callB (call_isP (p := p) (List.mem_cons_self ..) W.exc zn hd) (by rfl) T.n_isinstance (by decide +kernel) (pa_cons (pv 0) (pa_cons (pe_glob (v := .ref T.c_NoBook) (by rfl) T.g_NoBook rfl) pa_nil))) (pa_cons (pe_callB (call_isP (p := p) (List.mem_cons_self ..) W.exc zn hd) (by rfl) T.n_isinstance (by decide +kernel) (pa_cons (pv 0) (pa_cons (pe_glob (v := .ref T.c_NoSight) (by rfl) T.g_NoSight rfl) pa_nil))) (pa_cons (pe_callB (call_isP (p := p) (List.mem_cons_self ..) W.exc zn hd) (by rfl) T.n_isinstance (by decide +kernel) (pa_cons (pv 0) (pa_cons (pe_glob (v := .ref T.c_NoFit) (by rfl) T.g_NoFit rfl) pa_nil))) pa_nil))))))
      (pss_cons (ps_set (i := 1) sc__law_word_of.nd rfl (by first | exact Or.inl rfl | exact Or.inr rfl) (pe_op op_cat (pv 1) (pe_lst (pa_cons (pe_callB (call_isP (p := p) (List.mem_cons_self ..) W.exc zn hd) (by rfl) T.n_isinstance (by decide +kernel) (pa_cons (pv 0) (pa_cons (pe_glob (v := .ref T.c_TooLong) (by rfl) T.g_TooLong rfl) pa_nil))) (pa_cons (pe_callB (call_isP (p := p) (List.mem_cons_self ..) W.exc zn hd) (by rfl) T.n_isinstance (by decide +kernel) (pa_cons (pv 0) (pa_cons (pe_glob (v := .ref T.c_NoNote) (by rfl) T.g_NoNote rfl) pa_nil))) pa_nil)))))
      (pss_cons (ps_if (PW.pt (pw_or (pt_cmpR op_neI (pe_bm PySem.F.plainAttrs_list PySem.F.slot_list_count PySem.F.type_list_count mt_lcountB (pv 1) (pa_cons pe_bl pa_nil)) pe_int (nomark _)) (pw_or1 (pt_not (pt_val (pe_callB (call_isP (p := p) (List.mem_cons_self ..) W.exc zn hd) (by rfl) T.n_isinstance (by decide +kernel) (pa_cons (pv 0) (pa_cons (pe_bltn (v := .ty "ValueError") (by rfl) T.n_ValueError (by decide +kernel) rfl) pa_nil)))))))) (pss_one (ps_ret (pe_S (l := [111, 116, 104, 101, 114]) (by decide +kernel)))) pss_nil)
      (pss_one (ps_ret (pe_ix ix_list (pe_lst (pa_cons (pe_S (l := [108, 105, 103, 104, 116]) (by decide +kernel)) (pa_cons (pe_S (l := [98, 111, 111, 107]) (by decide +kernel)) (pa_cons (pe_S (l := [115, 105, 103, 104, 116]) (by decide +kernel)) (pa_cons (pe_S (l := [102, 105, 116]) (by decide +kernel)) (pa_cons (pe_S (l := [108, 111, 110, 103]) (by decide +kernel)) (pa_cons (pe_S (l := [110, 111, 116, 101]) (by decide +kernel)) pa_nil))))))) (pe_bm PySem.F.plainAttrs_list PySem.F.slot_list_index PySem.F.type_list_index mt_index (pv 1) (pa_cons pe_bl pa_nil)) (fun _ _ => rfl))))))), ?_⟩
    refine ⟨_, rfl, .ref T.c_NoLight, .ref T.c_NoLight, _, rfl, fun u r => r, W.k0, ?_⟩
    refine ⟨_, rfl, .ref T.c_NoBook, .ref T.c_NoBook, _, rfl, fun u r => r, W.k1, ?_⟩
    refine ⟨_, rfl, .ref T.c_NoSight, .ref T.c_NoSight, _, rfl, fun u r => r, W.k2, ?_⟩
    refine ⟨_, rfl, .ref T.c_NoFit, .ref T.c_NoFit, _, rfl, fun u r => r, W.k3, line_of (by show 4 ≤ 100000; decide), fun t1 h1 => ?_⟩
    have s1 := same_upd (o := .lst [.bl (i == 0), .bl (i == 1), .bl (i == 2), .bl (i == 3)]) h1
    refine ⟨_, rfl, _, rfl, .ref T.c_TooLong, .ref T.c_TooLong, _, rfl, fun u r => r, W.k4, ?_⟩
    refine ⟨_, rfl, .ref T.c_NoNote, .ref T.c_NoNote, _, rfl, fun u r => r, W.k5, line_of (by show 2 ≤ 100000; decide), fun t2 h2 => ?_⟩
    have s2 := same_upd (o := .lst [.bl (i == 4), .bl (i == 5)]) h2
    refine ⟨_, _, _, _, rfl, rfl, s2 _ _ upd_same, upd_same, line_of (by show 6 ≤ 100000; decide), fun t3 h3 => ?_⟩
    have s3 := same_upd (o := .lst ((flags i).map V.bl)) h3
    have s03 := s1.trans (s2.trans s3)
    have hL : SqL K (upd (upd (upd H t1 (.lst [.bl (i == 0), .bl (i == 1), .bl (i == 2), .bl (i == 3)])) t2 (.lst [.bl (i == 4), .bl (i == 5)])) t3 (.lst ((flags i).map V.bl))) t3 ((flags i).map V.bl) := SqL.of upd_same
    refine ⟨_, rfl, .inl ⟨rfl, _, hL⟩, t3, flags i, true, rfl, rfl, hL, _, _, rfl, rfl, _, rfl, ?_⟩
    rw [flags_one i hi]
    refine ⟨_, rfl, .ty "ValueError", .type "ValueError", _, rfl, fun u r => r, W.ve, _, rfl, ?_⟩
    refine ⟨line_of (by show 6 ≤ 100000; decide), fun t4 h4 => ?_⟩
    have s4 := same_upd (o := .lst (tx words)) h4
    have hL4 := s4.seq hL
    have at0 : ((flags i).map V.bl)[i]? = some (.bl true) := by rw [List.getElem?_map, flags_at i hi]; rfl
    refine ⟨_, rfl, .inl ⟨rfl, _, hL4⟩, t3, (flags i).map V.bl, .bl true, i, .bl true, rfl, rfl, hL4, rfl, rfl, at0, rfl, fun m z hm hz => ?_, ?_⟩
    · rw [List.getElem?_map, flags_no i hi m hm] at hz
      have := Option.some.inj hz
      subst this
      rfl
    · exact ⟨t4, _, _, .str (S (words.getD i [])), rfl, rfl, SqL.of (show _ = some (HO.lst (tx words)) from upd_same), atN (j := i) rfl (tx_at (words_at i hi)), q _ (s03.trans s4)⟩

end
end Lw
namespace Lw
open PySem PySem.Spec PyProof.Rows L2 TL
local macro_rules | `(tactic| walk_at "rd") => `(tactic| (repeat (first | refine ⟨_, rfl, ?_⟩ | refine ⟨_, _, rfl, rfl, ?_⟩ | refine ⟨rfl, ?_⟩ | refine iteT ?_)))
section
variable {P : Program} {w : World} {K : PySem.W.Frag} {mg : Str → Option Value} {base : Heap}
theorem pick_sign (j : Int) (e1 : 0 ≤ j) (e2 : j < 2) : ∃ c, atI [46, 111] j = some c ∧ isSign c = true := by
  by_cases h0 : j = 0
  · subst h0; exact ⟨46, rfl, rfl⟩
  · have h1 : j = 1 := by omega
    subst h1; exact ⟨111, rfl, rfl⟩
theorem light_piece (size p : Int) (row : List Nat) (hl : row.length = size.toNat) (s1 : 1 ≤ size) (s2 : size ≤ 12) (p1 : 1 ≤ p) (p2 : p ≤ 6) (h : size % p = 0) (hs : ∀ c ∈ row, isSign c = true) :
    0 ≤ size / p ∧ size / p ≤ 12 ∧ (cutL row none (some p)).length * (size / p).toNat ≤ 100000 ∧ Good (rep (size / p).toNat (cutL row none (some p))) := by
  have hd1 : (0 : Int) ≤ size / p := Int.ediv_nonneg (by omega) (by omega)
  have hd2 : p * (size / p) + size % p = size := Int.mul_ediv_add_emod _ _
  have hpp : p.toNat ≤ row.length := by
    by_cases hle : p ≤ size
    · omega
    · rw [Int.emod_eq_of_lt (by omega) (by omega)] at h
      omega
  have hlt : (row.take p.toNat).length = p.toNat := by rw [List.length_take]; omega
  have hmul : (size / p).toNat * p.toNat = row.length := by
    have e : ((size / p).toNat * p.toNat : Nat) = ((size / p) * p).toNat := by rw [Int.toNat_mul hd1 (by omega)]
    rw [e, Int.mul_comm]
    omega
  have hle2 : size / p ≤ 12 := Int.le_trans (Int.ediv_le_self _ (by omega)) (by omega)
  have hc : cutL row none (some p) = row.take p.toNat := by
    have := cutL_to row p.toNat
    rw [show ((p.toNat : Nat) : Int) = p by omega] at this
    exact this
  rw [hc]
  refine ⟨hd1, hle2, ?_, ?_, ?_, fun c hc => hs c (List.mem_of_mem_take (rep_mem hc))⟩
  · rw [hlt, Nat.mul_comm, hmul]
    omega
  · rw [rep_len, hlt, hmul]
    omega
  · rw [rep_len, hlt, hmul]
    omega
def sp__law_light_by (K : PySem.W.Frag) : Sp := fun vs H Q _ => ∃ a b, vs = [.int a, .int b] ∧ ∀ l H', Good l → Same H H' → Q (.str (S l)) H'
theorem ok__law_light_by (T : Txt K mg) : FnOk P w K mg base CX0 1 T.a__law_light_by T.d__law_light_by ["head", "cell"] (sp__law_light_by K) := by
  refine T.f__law_light_by.ok sc__law_light_by (fun vs H Q E h => ?_) (fun cdv A outer s H vs Q E hr h => ?_)
  · obtain ⟨a, b, rfl, _⟩ := h
    rfl
  · obtain ⟨a, b, rfl, q⟩ := h
    refine ⟨_, (pss_cons (ps_set (i := 2) sc__law_light_by.nd rfl (by first | exact Or.inl rfl | exact Or.inr rfl) (pe_op op_add pe_int (pe_op op_mod (pv 0) pe_int)))
      (pss_cons (ps_set (i := 3) sc__law_light_by.nd rfl (by first | exact Or.inl rfl | exact Or.inr rfl) (pe_op op_add (pe_op op_mod (pv 1) pe_int) pe_int))
      (pss_cons (ps_set (i := 4) sc__law_light_by.nd rfl (by first | exact Or.inl rfl | exact Or.inr rfl) (pe_S (l := []) (by decide +kernel)))
      (pss_cons (ps_for PassesOwn.never rfl (pi_range1 (by rfl) T.n_range (pa_cons (pv 2) pa_nil)) (pg_name (i := 5) sc__law_light_by.nd rfl (by first | exact Or.inl rfl | exact Or.inr rfl))
      (pss_cons (ps_set (i := 3) sc__law_light_by.nd rfl (by first | exact Or.inl rfl | exact Or.inr rfl) (pe_op op_mod (pe_op op_add (pe_op op_mul (pv 3) pe_int) (pe_op op_mul pe_int (pv 5))) pe_int))
      (pss_one (ps_set (i := 4) sc__law_light_by.nd rfl (by first | exact Or.inl rfl | exact Or.inr rfl) (pe_op op_addS (pv 4) (pe_ix ix_S (pe_S (l := [46, 111]) (by decide +kernel)) (pe_op op_mod (pe_op op_fdiv (pe_op op_mod (pe_op op_mul (pv 3) (pv 3)) pe_int) pe_int) pe_int) (fun _ _ => rfl)))))))
      (pss_cons (ps_set (i := 6) sc__law_light_by.nd rfl (by first | exact Or.inl rfl | exact Or.inr rfl) (pe_op op_add pe_int (pe_op op_mod (pe_op op_fdiv (pv 0) pe_int) pe_int)))
      (pss_cons (ps_if (PW.pt (pw_and (pt_cmpR op_eqI (pe_op op_mod (pv 2) (pv 6)) pe_int (nomark _)) (pw_and1 (pt_cmpR op_eqI (pe_op op_mod (pe_op op_fdiv (pv 0) pe_int) pe_int) pe_int (nomark _))))) (pss_one (ps_set (i := 4) sc__law_light_by.nd rfl (by first | exact Or.inl rfl | exact Or.inr rfl) (pe_op op_mulS (pe_slice sl_S (pv 4) po_none (po_some (pv 6))) (pe_op op_fdiv (pv 2) (pv 6))))) pss_nil)
      (pss_one (ps_ret (pv 4))))))))), ?_⟩
    refine ⟨_, rfl, _, _, rfl, rfl, (by show (0 : Int) < 12; decide), _, _, rfl, rfl, ?_⟩
    refine ⟨_, rfl, _, _, rfl, rfl, (by show (0 : Int) < 2147483647; decide), _, _, rfl, rfl, ?_⟩
    have a1 : 0 ≤ a % 12 := Int.emod_nonneg _ (by decide)
    have a2 : a % 12 < 12 := Int.emod_lt_of_pos _ (by decide)
    have b1 : 0 ≤ b % 2147483647 := Int.emod_nonneg _ (by decide)
    have b2 : b % 2147483647 < 2147483647 := Int.emod_lt_of_pos _ (by decide)
    refine ⟨_, rfl, _, rfl, by omega, by omega, ?_⟩
    refine for_it walkR (fun i σ H1 => ∃ st row y, σ = [some (.int a), some (.int b), some (.int (1 + a % 12)), some (.int st), some (.str (S row)), y, none] ∧ 0 ≤ st ∧ st ≤ 2147483658 ∧ row.length = i ∧ (∀ c ∈ row, isSign c = true) ∧ H1 = H)
      ⟨_, [], _, rfl, by omega, by omega, rfl, fun c hc => (nomatch hc), rfl⟩ (fun _ _ _ _ _ => trivial) (fun i x σ H1 H2 hi hp y => ?_) (fun σ H1 hp => ?_)
    · obtain ⟨st, row, y5, rfl, c1, c2, hl, hs, rfl⟩ := hp
      obtain ⟨rfl, rfl⟩ := y
      refine ⟨_, rfl, _, _, rfl, rfl, .inl ⟨by omega, by omega⟩, _, rfl, _, _, rfl, rfl, .inl ⟨by decide, by decide⟩, _, _, rfl, rfl, _, _, rfl, rfl, (by show (0 : Int) < 2147483647; decide), ?_⟩
      have d1 : 0 ≤ (st * 48271 + 7 * (i : Int)) % 2147483647 := Int.emod_nonneg _ (by decide)
      have d2 : (st * 48271 + 7 * (i : Int)) % 2147483647 < 2147483647 := Int.emod_lt_of_pos _ (by decide)
      refine ⟨_, rfl, _, rfl, _, rfl, _, _, rfl, rfl, .inl ⟨by omega, by omega⟩, _, _, rfl, rfl, (by show (0 : Int) < 2147483647; decide), _, _, rfl, rfl, ⟨by decide, by decide⟩, _, _, rfl, rfl, (by show (0 : Int) < 2; decide), ?_⟩
      obtain ⟨c, hc1, hc2⟩ := pick_sign ((st * 48271 + 7 * (i : Int)) % 2147483647 * ((st * 48271 + 7 * (i : Int)) % 2147483647) % 2147483647 / 64 % 2) (Int.emod_nonneg _ (by decide)) (Int.emod_lt_of_pos _ (by decide))
      refine ⟨_, _, c, rfl, rfl, by decide, hc1, row, _, rfl, rfl, by show row.length + 1 ≤ 100000; omega, _, row ++ [c], _, rfl, d1, by omega, by simp [hl], fun x hx => ?_, rfl⟩
      rcases List.mem_append.mp hx with hx | hx
      · exact hs x hx
      · rw [List.mem_singleton.mp hx]; exact hc2
    · obtain ⟨st, row, y5, rfl, c1, c2, hl, hs, rfl⟩ := hp
      have p1 : 0 ≤ a / 12 % 6 := Int.emod_nonneg _ (by decide)
      have p2 : a / 12 % 6 < 6 := Int.emod_lt_of_pos _ (by decide)
      have good : Good row := ⟨by omega, by omega, hs⟩
      refine ⟨_, rfl, _, _, rfl, rfl, ⟨by decide, by decide⟩, _, _, rfl, rfl, (by show (0 : Int) < 6; decide), _, _, rfl, rfl, ?_⟩
      refine ⟨_, rfl, _, rfl, _, _, rfl, rfl, by omega, _, _, rfl, rfl, _, rfl, ite2 (fun h => ?_) (fun h => ?_)⟩
      · have h := of_decide_eq_true h
        refine ⟨_, rfl, _, _, rfl, rfl, ⟨by decide, by decide⟩, _, _, rfl, rfl, (by show (0 : Int) < 2; decide), _, _, rfl, rfl, _, rfl, ite2 (fun h' => ?_) (fun h' => ?_)⟩
        · obtain ⟨g1, g2, g3, g4⟩ := light_piece (1 + a % 12) (1 + a / 12 % 6) row hl (by omega) (by omega) (by omega) (by omega) h hs
          exact ⟨_, rfl, _, rfl, _, rfl, row, rfl, by omega, _, rfl, _, rfl, _, _, rfl, rfl, ⟨by omega, by omega⟩, _, _, rfl, rfl, g1, Int.le_trans g2 (by decide), g3, _, rfl, q _ _ g4 (Same.refl _)⟩
        · exact ⟨_, rfl, q _ _ good (Same.refl _)⟩
      · exact ⟨_, rfl, q _ _ good (Same.refl _)⟩

end
end Lw
namespace Lw
open PySem PySem.Spec PyProof.Rows L2 TL
local macro_rules | `(tactic| walk_at "rd") => `(tactic| (repeat (first | refine ⟨_, rfl, ?_⟩ | refine ⟨_, _, rfl, rfl, ?_⟩ | refine ⟨rfl, ?_⟩ | refine iteT ?_)))
section
variable {P : Program} {w : World} {K : PySem.W.Frag} {mg : Str → Option Value} {base : Heap}
def sp__law_book_by (K : PySem.W.Frag) : Sp := fun vs H Q _ => ∃ (a : Addr) (ns : List Int), vs = [.ref a] ∧ SqL K H a (ns.map V.int) ∧ ∀ ls H' p, Book ls → Same H H' → H p = none → H' p = some (.lst (tx ls)) → Q (.ref p) H'
theorem ok__law_book_by (T : Txt K mg) : FnOk P w K mg base CX0 2 T.a__law_book_by T.d__law_book_by ["script"] (sp__law_book_by K) := by
  refine T.f__law_book_by.ok sc__law_book_by (fun vs H Q E h => ?_) (fun cdv A outer s H vs Q E hr h => ?_)
  · obtain ⟨a, ns, rfl, _⟩ := h
    rfl
  · obtain ⟨a, ns, rfl, hs, q⟩ := h
    refine ⟨_, (pss_cons (ps_set (i := 1) sc__law_book_by.nd rfl (by first | exact Or.inl rfl | exact Or.inr rfl) (pe_lst pa_nil))
      (pss_cons (ps_for PassesOwn.never rfl (pi_range1 (by rfl) T.n_range (pa_cons (pe_op op_add pe_int (pe_op op_mod (pe_call (ok__law_cell_at T) (hr.mono (by decide)) (by rfl) T.g__law_cell_at T.f__law_cell_at.kp T.b__law_cell_at .nil pass0 (pa_cons (pv 0) (pa_cons pe_int pa_nil))) pe_int)) pa_nil)) (pg_name (i := 2) sc__law_book_by.nd rfl (by first | exact Or.inl rfl | exact Or.inr rfl))
      (pss_cons (ps_set (i := 3) sc__law_book_by.nd rfl (by first | exact Or.inl rfl | exact Or.inr rfl) (pe_call (ok__law_cell_at T) (hr.mono (by decide)) (by rfl) T.g__law_cell_at T.f__law_cell_at.kp T.b__law_cell_at .nil pass0 (pa_cons (pv 0) (pa_cons (pe_op op_add pe_int (pe_op op_mul pe_int (pv 2))) pa_nil))))
      (pss_cons (ps_set (i := 4) sc__law_book_by.nd rfl (by first | exact Or.inl rfl | exact Or.inr rfl) (pe_call (ok__law_light_by T) (hr.mono (by decide)) (by rfl) T.g__law_light_by T.f__law_light_by.kp T.b__law_light_by .nil pass0 (pa_cons (pv 3) (pa_cons (pe_call (ok__law_cell_at T) (hr.mono (by decide)) (by rfl) T.g__law_cell_at T.f__law_cell_at.kp T.b__law_cell_at .nil pass0 (pa_cons (pv 0) (pa_cons (pe_op op_add pe_int (pe_op op_mul pe_int (pv 2))) pa_nil))) pa_nil))))
      (Evl.pss_cut (ps_if (PW.pt (pw_and (pt_cmpR op_gt (pv 2) pe_int (nomark _)) (pw_and1 (pt_cmpR op_eqI (pe_op op_mod (pe_op op_fdiv (pv 3) pe_int) pe_int) pe_int (nomark _))))) (pss_cons (ps_set (i := 4) sc__law_book_by.nd rfl (by first | exact Or.inl rfl | exact Or.inr rfl) (pe_ix ix_list (pv 1) (pe_op op_mod (pe_op op_fdiv (pv 3) pe_int) (pv 2)) (fun _ _ => rfl)))
      (pss_cons (ps_set (i := 5) sc__law_book_by.nd rfl (by first | exact Or.inl rfl | exact Or.inr rfl) (pe_op op_mod (pe_op op_fdiv (pv 3) pe_int) (pe_callB call_lenS (by rfl) T.n_len PySem.boot_len (pa_cons (pv 4) pa_nil))))
      (pss_cons (ps_set (i := 4) sc__law_book_by.nd rfl (by first | exact Or.inl rfl | exact Or.inr rfl) (pe_op op_addS (pe_slice sl_S (pv 4) (po_some (pv 5)) po_none) (pe_slice sl_S (pv 4) po_none (po_some (pv 5)))))
      (pss_one (ps_if (PW.pt (pw_and (pt_cmpR op_lt (pe_callB call_lenS (by rfl) T.n_len PySem.boot_len (pa_cons (pv 4) pa_nil)) pe_int (nomark _)) (pw_and1 (pt_cmpR op_eqI (pe_op op_mod (pe_op op_fdiv (pv 3) pe_int) pe_int) pe_int (nomark _))))) (pss_one (ps_set (i := 4) sc__law_book_by.nd rfl (by first | exact Or.inl rfl | exact Or.inr rfl) (pe_op op_addS (pv 4) (pv 4)))) pss_nil))))) pss_nil)
      (pss_one (ps_expr (pe_bm PySem.F.plainAttrs_list PySem.F.slot_list_append PySem.F.type_list_append mt_append (pv 1) (pa_cons (pv 4) pa_nil))))))))
      (pss_one (ps_ret (pv 1))))), ?_⟩
    refine ⟨line_of (by show 0 ≤ 100000; decide), fun b hb => ?_⟩
    have sb : Same H (upd H b (.lst [])) := same_upd hb
    refine ⟨_, rfl, a, ns, _, rfl, sb.seq hs, by decide, fun v0 H1 s1 => ⟨_, _, rfl, rfl, (by show (0 : Int) < 5; decide), _, _, rfl, rfl, ?_⟩⟩
    have n1 : 0 ≤ v0 % 5 := Int.emod_nonneg _ (by decide)
    have n2 : v0 % 5 < 5 := Int.emod_lt_of_pos _ (by decide)
    refine ⟨_, rfl, by omega, by omega, ?_⟩
    refine for_it walkR (fun i σ H' => ∃ ls y2 y3 y4 y5, σ = [some (.ref a), some (.ref b), y2, y3, y4, y5] ∧ ls.length = i ∧ (∀ l ∈ ls, Good l) ∧ H' b = some (.lst (tx ls)) ∧ Same H H')
      ⟨[], _, _, _, _, rfl, rfl, fun l hl => (nomatch hl), s1 _ _ upd_same, sb.trans s1⟩ (fun _ _ _ _ _ => trivial) (fun i x σ H1 H2 hi hp y => ?_) (fun σ H1 hp => ?_)
    · obtain ⟨ls, y2, y3, y4, y5, rfl, hlen, hgs, hB, s1⟩ := hp
      obtain ⟨rfl, rfl⟩ := y
      have hi5 : i < 5 := by omega
      refine ⟨_, rfl, _, rfl, _, _, rfl, rfl, .inl ⟨by decide, by decide⟩, _, _, rfl, rfl, a, ns, _, rfl, s1.seq hs, by omega, fun hd H3 s3 => ?_⟩
      refine ⟨_, rfl, _, rfl, _, rfl, _, _, rfl, rfl, .inl ⟨by decide, by decide⟩, _, _, rfl, rfl, a, ns, _, rfl, (s1.trans s3).seq hs, by omega, fun c4 H4 s4 => ⟨_, _, rfl, fun l0 H5 g0 s5 => ?_⟩⟩
      have s15 := ((s1.trans s3).trans s4).trans s5
      have hB5 : H5 b = some (.lst (tx ls)) := s5 _ _ (s4 _ _ (s3 _ _ hB))
      refine ⟨fun σ H' => ∃ l y5, Good l ∧ σ = [some (.ref a), some (.ref b), some (.int (i : Int)), some (.int hd), some (.str (S l)), y5] ∧ H' = H5, ?_, ?_⟩
      · refine ⟨_, rfl, _, _, rfl, rfl, _, rfl, ite2 (fun h => ?_) (fun h => ?_)⟩
        · have h : (0 : Int) < (i : Int) := of_decide_eq_true h
          refine ⟨_, rfl, _, _, rfl, rfl, ⟨by decide, by decide⟩, _, _, rfl, rfl, (by show (0 : Int) < 4; decide), _, _, rfl, rfl, _, rfl, ite2 (fun h' => ?_) (fun h' => ?_)⟩
          · have j1 : 0 ≤ hd / 576 % (i : Int) := Int.emod_nonneg _ (by omega)
            have j2 : hd / 576 % (i : Int) < i := Int.emod_lt_of_pos _ h
            have jl : (hd / 576 % (i : Int)).toNat < ls.length := by omega
            have gl := hgs _ (List.getElem_mem jl)
            refine ⟨_, rfl, _, rfl, _, _, rfl, rfl, ⟨by decide, by decide⟩, _, rfl, _, _, rfl, rfl, h, b, _, _, .str (S ls[(hd / 576 % (i : Int)).toNat]), rfl, rfl, SqL.of hB5, atN (j := (hd / 576 % (i : Int)).toNat) (by omega) (by rw [List.getElem?_map, List.getElem?_eq_getElem jl]; rfl), ?_⟩
            generalize ls[(hd / 576 % (i : Int)).toNat] = l at gl
            have l1 := gl.1; have l2 := gl.2.1
            refine ⟨_, rfl, _, _, rfl, rfl, ⟨by decide, by decide⟩, _, rfl, l, rfl, by omega, _, _, rfl, rfl, (by show (0 : Int) < l.length; omega), ?_⟩
            have d1 : 0 ≤ hd / 3000 % (l.length : Int) := Int.emod_nonneg _ (by omega)
            have e1 : cutL l (some (hd / 3000 % (l.length : Int))) none = l.drop (hd / 3000 % (l.length : Int)).toNat := by
              have := cutL_from l (hd / 3000 % (l.length : Int)).toNat
              rw [Int.toNat_of_nonneg d1] at this
              exact this
            have e2 : cutL l none (some (hd / 3000 % (l.length : Int))) = l.take (hd / 3000 % (l.length : Int)).toNat := by
              have := cutL_to l (hd / 3000 % (l.length : Int)).toNat
              rw [Int.toNat_of_nonneg d1] at this
              exact this
            have gt := good_turned gl (hd / 3000 % (l.length : Int)).toNat
            rw [← e1, ← e2] at gt
            have t2 := gt.2.1
            rw [List.length_append] at t2
            refine ⟨_, rfl, _, rfl, _, rfl, l, rfl, by omega, _, rfl, _, rfl, _, rfl, l, rfl, by omega, _, _, rfl, rfl, by omega, ?_⟩
            generalize cutL l (some (hd / 3000 % (l.length : Int))) none ++ cutL l none (some (hd / 3000 % (l.length : Int))) = t at gt
            have t1 := gt.1; have t2 := gt.2.1
            refine ⟨_, rfl, t, rfl, by omega, _, _, rfl, rfl, _, rfl, ite2 (fun h1 => ?_) (fun h1 => ?_)⟩
            · have h1 : (t.length : Int) < 7 := of_decide_eq_true h1
              refine ⟨_, rfl, _, _, rfl, rfl, ⟨by decide, by decide⟩, _, _, rfl, rfl, (by show (0 : Int) < 2; decide), _, _, rfl, rfl, _, rfl, ite2 (fun h2 => ?_) (fun h2 => ?_)⟩
              · exact ⟨_, rfl, _, rfl, t, t, rfl, rfl, by omega, t ++ t, _, good_twice gt (by omega), rfl, rfl⟩
              · exact ⟨t, _, gt, rfl, rfl⟩
            · exact ⟨t, _, gt, rfl, rfl⟩
          · exact ⟨l0, _, g0, rfl, rfl⟩
        · exact ⟨l0, _, g0, rfl, rfl⟩
      · rintro σ H' ⟨l, y5, gl, rfl, rfl⟩
        refine ⟨_, rfl, .inl ⟨rfl, _, SqL.of hB5⟩, _, rfl, b, _, _, rfl, rfl, hB5, line_lt (by rw [List.length_map]; omega), ls ++ [l], _, _, _, _, rfl, by rw [List.length_append, hlen]; rfl, fun z hz => ?_, ?_, Same_mut s15 hb⟩
        · rcases List.mem_append.mp hz with hz | hz
          · exact hgs z hz
          · rw [List.mem_singleton.mp hz]; exact gl
        · rw [upd_same]
          unfold tx
          rw [List.map_append]
          rfl
    · obtain ⟨ls, y2, y3, y4, y5, rfl, hlen, hgs, hB, s1⟩ := hp
      exact ⟨_, rfl, q ls _ b ⟨by omega, by omega, hgs⟩ s1 hb hB⟩

end
end Lw
namespace Lw
open PySem PySem.Spec PyProof.Rows L2 TL
local macro_rules | `(tactic| walk_at "rd") => `(tactic| (repeat (first | refine ⟨_, rfl, ?_⟩ | refine ⟨_, _, rfl, rfl, ?_⟩ | refine ⟨rfl, ?_⟩ | refine iteT ?_)))
section
variable {P : Program} {w : World} {K : PySem.W.Frag} {mg : Str → Option Value} {base : Heap}
def sx__law_of_lights (K : PySem.W.Frag) (T : Txt K mg) : Sp := fun vs H Q E => ∃ (w : Int) (a b : List Nat) (n : Int), vs = [.int w, .str (S a), .str (S b), .int n] ∧ a.length ≤ 1000 ∧ Good b ∧
  ((0 ≤ w → w ≤ 7 → Good a ∧ (w = 0 → 0 ≤ n ∧ n ≤ 100)) → ∀ H', Same H H' → Q .non H') ∧ (0 ≤ w → w ≤ 7 → ¬ Good a → ∀ H', Same H H' → E (.ref T.c_NoLight) none H') ∧
  (w = 0 → Good a → ¬ (0 ≤ n ∧ n ≤ 100) → ∀ H', Same H H' → E (.ref T.c_NoSight) none H') ∧ (Good a → w = 6 ∨ w = 7 → ∀ H', Same H H' → E (.ref T.c_TooLong) none H')
theorem okx__law_of_lights (T : Txt K mg) : FnOk P w K mg base (L2N.CX P w) 4 T.a__law_of_lights T.d__law_of_lights ["which", "one", "other", "long"] (sx__law_of_lights K T) := by
  refine okN T.f__law_of_lights sc__law_of_lights (fun vs H Q E h => ?_) (fun cdv A outer s H vs Q E hr h => ?_)
  · obtain ⟨w, a, b, n, rfl, _⟩ := h
    rfl
  · obtain ⟨w, a, b, n, rfl, za, gb, q, eL, eS, eT⟩ := h
    refine ⟨_, (Evl.pss_cut (ps_if (pt_cmpR op_eqI (pv 0) pe_int (nomark _)) (pss_one (ps_expr (pe_call (okx_seen T) (hr.mono (by decide)) (by rfl) T.g_seen T.f_seen.kp T.b_seen .nil (L2N.passes_call (L2N.takes_of rfl rfl rfl rfl) fun _ _ _ _ h => h) (pa_cons (pv 1) (pa_cons pe_int (pa_cons (pv 3) pa_nil)))))) pss_nil)
      (Evl.pss_cut (ps_if (pt_cmpR op_eqI (pv 0) pe_int (nomark _)) (pss_one (ps_expr (pe_call (okx_shortest T) (hr.mono (by decide)) (by rfl) T.g_shortest T.f_shortest.kp T.b_shortest .nil (L2N.passes_call (L2N.takes_of rfl rfl rfl rfl) fun _ _ _ _ h => h) (pa_cons (pv 1) pa_nil)))) pss_nil)
      (Evl.pss_cut (ps_if (pt_cmpR op_eqI (pv 0) pe_int (nomark _)) (pss_one (ps_expr (pe_call (okx_turn T) (hr.mono (by decide)) (by rfl) T.g_turn T.f_turn.kp T.b_turn .nil (L2N.passes_call (L2N.takes_of rfl rfl rfl rfl) fun _ _ _ _ h => h) (pa_cons (pv 1) (pa_cons (pv 2) pa_nil))))) pss_nil)
      (Evl.pss_cut (ps_if (pt_cmpR op_eqI (pv 0) pe_int (nomark _)) (pss_one (ps_expr (pe_call (okx_turn T) (hr.mono (by decide)) (by rfl) T.g_turn T.f_turn.kp T.b_turn .nil (L2N.passes_call (L2N.takes_of rfl rfl rfl rfl) fun _ _ _ _ h => h) (pa_cons (pv 2) (pa_cons (pv 1) pa_nil))))) pss_nil)
      (Evl.pss_cut (ps_if (pt_cmpR op_eqI (pv 0) pe_int (nomark _)) (pss_one (ps_expr (pe_call (okx_parting T) (hr.mono (by decide)) (by rfl) T.g_parting T.f_parting.kp T.b_parting .nil (L2N.passes_call (L2N.takes_of rfl rfl rfl rfl) fun _ _ _ _ h => h) (pa_cons (pv 1) (pa_cons pe_int (pa_cons (pv 2) (pa_cons pe_int pa_nil))))))) pss_nil)
      (Evl.pss_cut (ps_if (pt_cmpR op_eqI (pv 0) pe_int (nomark _)) (pss_one (ps_expr (pe_call (okx_parting T) (hr.mono (by decide)) (by rfl) T.g_parting T.f_parting.kp T.b_parting .nil (L2N.passes_call (L2N.takes_of rfl rfl rfl rfl) fun _ _ _ _ h => h) (pa_cons (pv 2) (pa_cons pe_int (pa_cons (pv 1) (pa_cons pe_int pa_nil))))))) pss_nil)
      (Evl.pss_cut (ps_if (pt_cmpR op_eqI (pv 0) pe_int (nomark _)) (pss_one (ps_expr (pe_call (okx_both T) (hr.mono (by decide)) (by rfl) T.g_both T.f_both.kp T.b_both .nil (L2N.passes_call (L2N.takes_of rfl rfl rfl rfl) fun _ _ _ _ h => h) (pa_cons (pv 1) (pa_cons (pv 2) pa_nil))))) pss_nil)
      (pss_one (ps_if (pt_cmpR op_eqI (pv 0) pe_int (nomark _)) (pss_one (ps_expr (pe_call (okx_both T) (hr.mono (by decide)) (by rfl) T.g_both T.f_both.kp T.b_both .nil (L2N.passes_call (L2N.takes_of rfl rfl rfl rfl) fun _ _ _ _ h => h) (pa_cons (pv 2) (pa_cons (pv 1) pa_nil))))) pss_nil))))))))), ?_⟩
    have zb : b.length ≤ 1000 := by have := gb.2.1; omega
    have q : (0 ≤ w → w < 8 → Good a ∧ (w = 0 → 0 ≤ n ∧ n ≤ 100)) → ∀ H', Same H H' → Q .non H' := fun g => q fun z1 z2 => g z1 (by omega)
    have s0 : Same H H := Same.refl _
    have g0 : 0 ≤ w → w < 0 → Good a ∧ (w = 0 → 0 ≤ n ∧ n ≤ 100) := fun z1 z2 => by omega
    refine ⟨fun σ H' => σ = [some (.int w), some (.str (S a)), some (.str (S b)), some (.int n)] ∧ Same H H' ∧ (0 ≤ w → w < 1 → Good a ∧ (w = 0 → 0 ≤ n ∧ n ≤ 100)), ?_, ?_⟩
    · refine ⟨_, rfl, _, _, rfl, rfl, _, rfl, ite2 (fun h => ?_) (fun h => ?_)⟩
      · have h : w = 0 := of_decide_eq_true h
        by_cases ga : Good a
        · by_cases gn : 0 ≤ n ∧ n ≤ 100
          · have G : Good a ∧ (w = 0 → 0 ≤ n ∧ n ≤ 100) := ⟨ga, fun _ => gn⟩
            exact ⟨_, rfl, _, rfl, .inl ⟨a, 5, n, rfl, ga, gn.1, gn.2, fun H2 s2 => ⟨rfl, s0.trans s2, fun _ _ => G⟩⟩⟩
          · exact ⟨_, rfl, _, rfl, .inr ⟨a, 5, n, rfl, za, .inr ⟨ga, by omega, fun H2 s2 => eS h ga gn H2 (s0.trans s2)⟩⟩⟩
        · exact ⟨_, rfl, _, rfl, .inr ⟨a, 5, n, rfl, za, .inl ⟨ga, fun H2 s2 => eL (by omega) (by omega) ga H2 (s0.trans s2)⟩⟩⟩
      · have h : ¬ w = 0 := fun z => h (decide_eq_true z)
        exact ⟨rfl, s0, fun z1 z2 => g0 z1 (by omega)⟩
    · clear s0 g0
      rintro _ H1 ⟨rfl, s0, g0⟩
      refine ⟨fun σ H' => σ = [some (.int w), some (.str (S a)), some (.str (S b)), some (.int n)] ∧ Same H H' ∧ (0 ≤ w → w < 2 → Good a ∧ (w = 0 → 0 ≤ n ∧ n ≤ 100)), ?_, ?_⟩
      · refine ⟨_, rfl, _, _, rfl, rfl, _, rfl, ite2 (fun h => ?_) (fun h => ?_)⟩
        · have h : w = 1 := of_decide_eq_true h
          by_cases ga : Good a
          · have G : Good a ∧ (w = 0 → 0 ≤ n ∧ n ≤ 100) := ⟨ga, fun z => by omega⟩
            exact ⟨_, rfl, .inl ⟨a, rfl, ga, fun H2 s2 => ⟨rfl, s0.trans s2, fun _ _ => G⟩⟩⟩
          · exact ⟨_, rfl, .inr ⟨a, rfl, za, ga, fun H2 s2 => eL (by omega) (by omega) ga H2 (s0.trans s2)⟩⟩
        · have h : ¬ w = 1 := fun z => h (decide_eq_true z)
          exact ⟨rfl, s0, fun z1 z2 => g0 z1 (by omega)⟩
      · clear s0 g0
        rintro _ H1 ⟨rfl, s0, g0⟩
        refine ⟨fun σ H' => σ = [some (.int w), some (.str (S a)), some (.str (S b)), some (.int n)] ∧ Same H H' ∧ (0 ≤ w → w < 3 → Good a ∧ (w = 0 → 0 ≤ n ∧ n ≤ 100)), ?_, ?_⟩
        · refine ⟨_, rfl, _, _, rfl, rfl, _, rfl, ite2 (fun h => ?_) (fun h => ?_)⟩
          · have h : w = 2 := of_decide_eq_true h
            by_cases ga : Good a
            · have G : Good a ∧ (w = 0 → 0 ≤ n ∧ n ≤ 100) := ⟨ga, fun z => by omega⟩
              exact ⟨_, rfl, _, rfl, .inl ⟨a, b, rfl, ga, gb, fun H2 s2 => ⟨rfl, s0.trans s2, fun _ _ => G⟩⟩⟩
            · exact ⟨_, rfl, _, rfl, .inr ⟨a, b, rfl, za, zb, .inl ga, fun H2 s2 => eL (by omega) (by omega) ga H2 (s0.trans s2)⟩⟩
          · have h : ¬ w = 2 := fun z => h (decide_eq_true z)
            exact ⟨rfl, s0, fun z1 z2 => g0 z1 (by omega)⟩
        · clear s0 g0
          rintro _ H1 ⟨rfl, s0, g0⟩
          refine ⟨fun σ H' => σ = [some (.int w), some (.str (S a)), some (.str (S b)), some (.int n)] ∧ Same H H' ∧ (0 ≤ w → w < 4 → Good a ∧ (w = 0 → 0 ≤ n ∧ n ≤ 100)), ?_, ?_⟩
          · refine ⟨_, rfl, _, _, rfl, rfl, _, rfl, ite2 (fun h => ?_) (fun h => ?_)⟩
            · have h : w = 3 := of_decide_eq_true h
              by_cases ga : Good a
              · have G : Good a ∧ (w = 0 → 0 ≤ n ∧ n ≤ 100) := ⟨ga, fun z => by omega⟩
                exact ⟨_, rfl, _, rfl, .inl ⟨b, a, rfl, gb, ga, fun H2 s2 => ⟨rfl, s0.trans s2, fun _ _ => G⟩⟩⟩
              · exact ⟨_, rfl, _, rfl, .inr ⟨b, a, rfl, zb, za, .inr ⟨gb, ga⟩, fun H2 s2 => eL (by omega) (by omega) ga H2 (s0.trans s2)⟩⟩
            · have h : ¬ w = 3 := fun z => h (decide_eq_true z)
              exact ⟨rfl, s0, fun z1 z2 => g0 z1 (by omega)⟩
          · clear s0 g0
            rintro _ H1 ⟨rfl, s0, g0⟩
            refine ⟨fun σ H' => σ = [some (.int w), some (.str (S a)), some (.str (S b)), some (.int n)] ∧ Same H H' ∧ (0 ≤ w → w < 5 → Good a ∧ (w = 0 → 0 ≤ n ∧ n ≤ 100)), ?_, ?_⟩
            · refine ⟨_, rfl, _, _, rfl, rfl, _, rfl, ite2 (fun h => ?_) (fun h => ?_)⟩
              · have h : w = 4 := of_decide_eq_true h
                by_cases ga : Good a
                · have G : Good a ∧ (w = 0 → 0 ≤ n ∧ n ≤ 100) := ⟨ga, fun z => by omega⟩
                  exact ⟨_, rfl, _, rfl, .inl ⟨a, 1, b, 2, rfl, ga, gb, fun H2 s2 => ⟨rfl, s0.trans s2, fun _ _ => G⟩⟩⟩
                · exact ⟨_, rfl, _, rfl, .inr ⟨a, 1, b, 2, rfl, za, zb, .inl ga, fun H2 s2 => eL (by omega) (by omega) ga H2 (s0.trans s2)⟩⟩
              · have h : ¬ w = 4 := fun z => h (decide_eq_true z)
                exact ⟨rfl, s0, fun z1 z2 => g0 z1 (by omega)⟩
            · clear s0 g0
              rintro _ H1 ⟨rfl, s0, g0⟩
              refine ⟨fun σ H' => σ = [some (.int w), some (.str (S a)), some (.str (S b)), some (.int n)] ∧ Same H H' ∧ (0 ≤ w → w < 6 → Good a ∧ (w = 0 → 0 ≤ n ∧ n ≤ 100)), ?_, ?_⟩
              · refine ⟨_, rfl, _, _, rfl, rfl, _, rfl, ite2 (fun h => ?_) (fun h => ?_)⟩
                · have h : w = 5 := of_decide_eq_true h
                  by_cases ga : Good a
                  · have G : Good a ∧ (w = 0 → 0 ≤ n ∧ n ≤ 100) := ⟨ga, fun z => by omega⟩
                    exact ⟨_, rfl, _, rfl, .inl ⟨b, 1, a, 2, rfl, gb, ga, fun H2 s2 => ⟨rfl, s0.trans s2, fun _ _ => G⟩⟩⟩
                  · exact ⟨_, rfl, _, rfl, .inr ⟨b, 1, a, 2, rfl, zb, za, .inr ⟨gb, ga⟩, fun H2 s2 => eL (by omega) (by omega) ga H2 (s0.trans s2)⟩⟩
                · have h : ¬ w = 5 := fun z => h (decide_eq_true z)
                  exact ⟨rfl, s0, fun z1 z2 => g0 z1 (by omega)⟩
              · clear s0 g0
                rintro _ H1 ⟨rfl, s0, g0⟩
                refine ⟨fun σ H' => σ = [some (.int w), some (.str (S a)), some (.str (S b)), some (.int n)] ∧ Same H H' ∧ (0 ≤ w → w < 7 → Good a ∧ (w = 0 → 0 ≤ n ∧ n ≤ 100)), ?_, ?_⟩
                · refine ⟨_, rfl, _, _, rfl, rfl, _, rfl, ite2 (fun h => ?_) (fun h => ?_)⟩
                  · have h : w = 6 := of_decide_eq_true h
                    by_cases ga : Good a
                    · have G : Good a ∧ (w = 0 → 0 ≤ n ∧ n ≤ 100) := ⟨ga, fun z => by omega⟩
                      exact ⟨_, rfl, _, rfl, .inl ⟨a, b, rfl, ga, gb, fun _ H2 s2 => ⟨rfl, s0.trans s2, fun _ _ => G⟩, fun _ H2 s2 => eT ga (by omega) H2 (s0.trans s2)⟩⟩
                    · exact ⟨_, rfl, _, rfl, .inr ⟨a, b, rfl, za, zb, .inl ga, fun H2 s2 => eL (by omega) (by omega) ga H2 (s0.trans s2)⟩⟩
                  · have h : ¬ w = 6 := fun z => h (decide_eq_true z)
                    exact ⟨rfl, s0, fun z1 z2 => g0 z1 (by omega)⟩
                · clear s0 g0
                  rintro _ H1 ⟨rfl, s0, g0⟩
                  refine ⟨_, rfl, _, _, rfl, rfl, _, rfl, ite2 (fun h => ?_) (fun h => ?_)⟩
                  · have h : w = 7 := of_decide_eq_true h
                    by_cases ga : Good a
                    · have G : Good a ∧ (w = 0 → 0 ≤ n ∧ n ≤ 100) := ⟨ga, fun z => by omega⟩
                      exact ⟨_, rfl, _, rfl, .inl ⟨b, a, rfl, gb, ga, fun _ H2 s2 => q (fun _ _ => G) _ (s0.trans s2), fun _ H2 s2 => eT ga (by omega) H2 (s0.trans s2)⟩⟩
                    · exact ⟨_, rfl, _, rfl, .inr ⟨b, a, rfl, zb, za, .inr ⟨gb, ga⟩, fun H2 s2 => eL (by omega) (by omega) ga H2 (s0.trans s2)⟩⟩
                  · have h : ¬ w = 7 := fun z => h (decide_eq_true z)
                    exact q (fun z1 z2 => g0 z1 (by omega)) _ s0

end
end Lw
namespace Lw
open PySem PySem.Spec PyProof.Rows L2 TL
local macro_rules | `(tactic| walk_at "rd") => `(tactic| (repeat (first | refine ⟨_, rfl, ?_⟩ | refine ⟨_, _, rfl, rfl, ?_⟩ | refine ⟨rfl, ?_⟩ | refine iteT ?_)))
section
variable {P : Program} {w : World} {K : PySem.W.Frag} {mg : Str → Option Value} {base : Heap}
theorem book_or (cb cl : Addr) (ls : List (List Nat)) : Book ls ∨ ∃ C, BadB cb cl ls C := by
  by_cases h1 : ls.length < 1 ∨ 5 < ls.length
  · exact .inr ⟨cb, .inl ⟨rfl, h1⟩⟩
  · by_cases h2 : ∀ l ∈ ls, Good l
    · exact .inl ⟨by omega, by omega, h2⟩
    · refine .inr ⟨cl, .inr ⟨rfl, by omega, by omega, ?_⟩⟩
      exact Classical.byContradiction fun z => h2 fun l hl => Classical.byContradiction fun y => z ⟨l, hl, y⟩
theorem fit_none {ls : List (List Nat)} (hb : Book ls) : fitV ls [] ≠ [] := fit_own hb (i := 0) (by have := hb.1; omega) 0 0
def sx__law_of_books (K : PySem.W.Frag) (T : Txt K mg) : Sp := fun vs H Q E => ∃ (w : Int) (p : Addr) (ls : List (List Nat)) (s : List Nat), vs = [.int w, .ref p, .str (S s)] ∧ SqL K H p (tx ls) ∧ ls.length ≤ 1000 ∧ (∀ l ∈ ls, l.length ≤ 1000) ∧ s.length ≤ 1000 ∧ (s = [] ∨ BadS s) ∧
  ((8 ≤ w → w ≤ 13 → Book ls ∧ (w ≤ 10 → s = [])) → ∀ H', Same H H' → Q .non H') ∧ (8 ≤ w → w ≤ 13 → ∀ C, BadB T.c_NoBook T.c_NoLight ls C → ∀ H', Same H H' → E (.ref C) none H') ∧
  (8 ≤ w → w ≤ 10 → Book ls → BadS s → ∀ H', Same H H' → E (.ref T.c_NoSight) none H')
theorem okx__law_of_books (T : Txt K mg) : FnOk P w K mg base (L2N.CX P w) 7 T.a__law_of_books T.d__law_of_books ["which", "book", "sight"] (sx__law_of_books K T) := by
  refine okN T.f__law_of_books sc__law_of_books (fun vs H Q E h => ?_) (fun cdv A outer s H vs Q E hr h => ?_)
  · obtain ⟨w, p, ls, s, rfl, _⟩ := h
    rfl
  · obtain ⟨w, p, ls, s, rfl, sq, z1, z2, z3, hss, q, eB, eS⟩ := h
    refine ⟨_, (Evl.pss_cut (ps_if (pt_cmpR op_eqI (pv 0) pe_int (nomark _)) (pss_one (ps_expr (pe_call (okx_fitting T) (hr.mono (by decide)) (by rfl) T.g_fitting T.f_fitting.kp T.b_fitting .nil (L2N.passes_call (L2N.takes_of rfl rfl rfl rfl) fun _ _ _ _ h => h) (pa_cons (pv 1) (pa_cons (pv 2) pa_nil))))) pss_nil)
      (Evl.pss_cut (ps_if (pt_cmpR op_eqI (pv 0) pe_int (nomark _)) (pss_one (ps_expr (pe_call (okx_sure T) (hr.mono (by decide)) (by rfl) T.g_sure T.f_sure.kp T.b_sure .nil (L2N.passes_call (L2N.takes_of rfl rfl rfl rfl) fun _ _ _ _ h => h) (pa_cons (pv 1) (pa_cons (pv 2) pa_nil))))) pss_nil)
      (Evl.pss_cut (ps_if (pt_cmpR op_eqI (pv 0) pe_int (nomark _)) (pss_one (ps_expr (pe_call (okx_coming T) (hr.mono (by decide)) (by rfl) T.g_coming T.f_coming.kp T.b_coming .nil (L2N.passes_call (L2N.takes_of rfl rfl rfl rfl) fun _ _ _ _ h => h) (pa_cons (pv 1) (pa_cons (pv 2) pa_nil))))) pss_nil)
      (Evl.pss_cut (ps_if (pt_cmpR op_eqI (pv 0) pe_int (nomark _)) (pss_one (ps_expr (pe_call (okx_watch T) (hr.mono (by decide)) (by rfl) T.g_watch T.f_watch.kp T.b_watch .nil (L2N.passes_call (L2N.takes_of rfl rfl rfl rfl) fun _ _ _ _ h => h) (pa_cons (pv 1) pa_nil)))) pss_nil)
      (Evl.pss_cut (ps_if (pt_cmpR op_eqI (pv 0) pe_int (nomark _)) (pss_one (ps_expr (pe_call (okx_twins T) (hr.mono (by decide)) (by rfl) T.g_twins T.f_twins.kp T.b_twins .nil (L2N.passes_call (L2N.takes_of rfl rfl rfl rfl) fun _ _ _ _ h => h) (pa_cons (pv 1) pa_nil)))) pss_nil)
      (pss_one (ps_if (pt_cmpR op_eqI (pv 0) pe_int (nomark _)) (pss_one (ps_expr (pe_call (okx_shown T) (hr.mono (by decide)) (by rfl) T.g_shown T.f_shown.kp T.b_shown .nil (L2N.passes_call (L2N.takes_of rfl rfl rfl rfl) fun _ _ _ _ h => h) (pa_cons (pv 1) pa_nil)))) pss_nil))))))), ?_⟩
    have q : (8 ≤ w → w < 14 → Book ls ∧ (w ≤ 10 → s = [])) → ∀ H', Same H H' → Q .non H' := fun g => q fun z1 z2 => g z1 (by omega)
    have s0 : Same H H := Same.refl _
    have g0 : 8 ≤ w → w < 8 → Book ls ∧ (w ≤ 10 → s = []) := fun z1 z2 => by omega
    refine ⟨fun σ H' => σ = [some (.int w), some (.ref p), some (.str (S s))] ∧ Same H H' ∧ (8 ≤ w → w < 9 → Book ls ∧ (w ≤ 10 → s = [])), ?_, ?_⟩
    · refine ⟨_, rfl, _, _, rfl, rfl, _, rfl, ite2 (fun h => ?_) (fun h => ?_)⟩
      · have h : w = 8 := of_decide_eq_true h
        rcases book_or T.c_NoBook T.c_NoLight ls with hb | ⟨C, hC⟩
        · rcases hss with he | hbs
          · have G : Book ls ∧ (w ≤ 10 → s = []) := ⟨hb, fun _ => he⟩
            exact ⟨_, rfl, _, rfl, .inl ⟨p, ls, s, rfl, s0.seq sq, hb, by rw [he]; decide, by rw [he]; exact fun c hc => (nomatch hc), fun H2 f xs s2 _ _ _ => ⟨rfl, s0.trans s2, fun _ _ => G⟩⟩⟩
          · exact ⟨_, rfl, _, rfl, .inr ⟨p, ls, s, rfl, s0.seq sq, z1, z2, z3, .inr ⟨hb, hbs, fun H2 s2 => eS (by omega) (by omega) hb hbs H2 (s0.trans s2)⟩⟩⟩
        · exact ⟨_, rfl, _, rfl, .inr ⟨p, ls, s, rfl, s0.seq sq, z1, z2, z3, .inl ⟨C, hC, fun H2 s2 => eB (by omega) (by omega) C hC H2 (s0.trans s2)⟩⟩⟩
      · have h : ¬ w = 8 := fun z => h (decide_eq_true z)
        exact ⟨rfl, s0, fun z1 z2 => g0 z1 (by omega)⟩
    · clear s0 g0
      rintro _ H1 ⟨rfl, s0, g0⟩
      refine ⟨fun σ H' => σ = [some (.int w), some (.ref p), some (.str (S s))] ∧ Same H H' ∧ (8 ≤ w → w < 10 → Book ls ∧ (w ≤ 10 → s = [])), ?_, ?_⟩
      · refine ⟨_, rfl, _, _, rfl, rfl, _, rfl, ite2 (fun h => ?_) (fun h => ?_)⟩
        · have h : w = 9 := of_decide_eq_true h
          rcases book_or T.c_NoBook T.c_NoLight ls with hb | ⟨C, hC⟩
          · rcases hss with he | hbs
            · have G : Book ls ∧ (w ≤ 10 → s = []) := ⟨hb, fun _ => he⟩
              exact ⟨_, rfl, _, rfl, .inl ⟨p, ls, s, rfl, s0.seq sq, hb, by rw [he]; decide, by rw [he]; exact fun c hc => (nomatch hc), by rw [he]; exact fit_none hb, fun H2 s2 => ⟨rfl, s0.trans s2, fun _ _ => G⟩⟩⟩
            · exact ⟨_, rfl, _, rfl, .inr ⟨p, ls, s, rfl, s0.seq sq, z1, z2, z3, .inr ⟨hb, hbs, fun H2 s2 => eS (by omega) (by omega) hb hbs H2 (s0.trans s2)⟩⟩⟩
          · exact ⟨_, rfl, _, rfl, .inr ⟨p, ls, s, rfl, s0.seq sq, z1, z2, z3, .inl ⟨C, hC, fun H2 s2 => eB (by omega) (by omega) C hC H2 (s0.trans s2)⟩⟩⟩
        · have h : ¬ w = 9 := fun z => h (decide_eq_true z)
          exact ⟨rfl, s0, fun z1 z2 => g0 z1 (by omega)⟩
      · clear s0 g0
        rintro _ H1 ⟨rfl, s0, g0⟩
        refine ⟨fun σ H' => σ = [some (.int w), some (.ref p), some (.str (S s))] ∧ Same H H' ∧ (8 ≤ w → w < 11 → Book ls ∧ (w ≤ 10 → s = [])), ?_, ?_⟩
        · refine ⟨_, rfl, _, _, rfl, rfl, _, rfl, ite2 (fun h => ?_) (fun h => ?_)⟩
          · have h : w = 10 := of_decide_eq_true h
            rcases book_or T.c_NoBook T.c_NoLight ls with hb | ⟨C, hC⟩
            · rcases hss with he | hbs
              · have G : Book ls ∧ (w ≤ 10 → s = []) := ⟨hb, fun _ => he⟩
                exact ⟨_, rfl, _, rfl, .inl ⟨p, ls, s, rfl, s0.seq sq, hb, by rw [he]; decide, by rw [he]; exact fun c hc => (nomatch hc), by rw [he]; exact fit_none hb, fun H2 s2 => ⟨rfl, s0.trans s2, fun _ _ => G⟩⟩⟩
              · exact ⟨_, rfl, _, rfl, .inr ⟨p, ls, s, rfl, s0.seq sq, z1, z2, z3, .inr ⟨hb, hbs, fun H2 s2 => eS (by omega) (by omega) hb hbs H2 (s0.trans s2)⟩⟩⟩
            · exact ⟨_, rfl, _, rfl, .inr ⟨p, ls, s, rfl, s0.seq sq, z1, z2, z3, .inl ⟨C, hC, fun H2 s2 => eB (by omega) (by omega) C hC H2 (s0.trans s2)⟩⟩⟩
          · have h : ¬ w = 10 := fun z => h (decide_eq_true z)
            exact ⟨rfl, s0, fun z1 z2 => g0 z1 (by omega)⟩
        · clear s0 g0
          rintro _ H1 ⟨rfl, s0, g0⟩
          refine ⟨fun σ H' => σ = [some (.int w), some (.ref p), some (.str (S s))] ∧ Same H H' ∧ (8 ≤ w → w < 12 → Book ls ∧ (w ≤ 10 → s = [])), ?_, ?_⟩
          · refine ⟨_, rfl, _, _, rfl, rfl, _, rfl, ite2 (fun h => ?_) (fun h => ?_)⟩
            · have h : w = 11 := of_decide_eq_true h
              rcases book_or T.c_NoBook T.c_NoLight ls with hb | ⟨C, hC⟩
              · have G : Book ls ∧ (w ≤ 10 → s = []) := ⟨hb, fun z => by omega⟩
                exact ⟨_, rfl, .inl ⟨p, ls, rfl, s0.seq sq, hb, fun H2 s2 => ⟨rfl, s0.trans s2, fun _ _ => G⟩⟩⟩
              · exact ⟨_, rfl, .inr ⟨p, ls, C, rfl, s0.seq sq, z1, z2, hC, fun H2 s2 => eB (by omega) (by omega) C hC H2 (s0.trans s2)⟩⟩
            · have h : ¬ w = 11 := fun z => h (decide_eq_true z)
              exact ⟨rfl, s0, fun z1 z2 => g0 z1 (by omega)⟩
          · clear s0 g0
            rintro _ H1 ⟨rfl, s0, g0⟩
            refine ⟨fun σ H' => σ = [some (.int w), some (.ref p), some (.str (S s))] ∧ Same H H' ∧ (8 ≤ w → w < 13 → Book ls ∧ (w ≤ 10 → s = [])), ?_, ?_⟩
            · refine ⟨_, rfl, _, _, rfl, rfl, _, rfl, ite2 (fun h => ?_) (fun h => ?_)⟩
              · have h : w = 12 := of_decide_eq_true h
                rcases book_or T.c_NoBook T.c_NoLight ls with hb | ⟨C, hC⟩
                · have G : Book ls ∧ (w ≤ 10 → s = []) := ⟨hb, fun z => by omega⟩
                  exact ⟨_, rfl, .inl ⟨p, ls, rfl, s0.seq sq, hb, fun H2 f xs s2 _ _ _ => ⟨rfl, s0.trans s2, fun _ _ => G⟩⟩⟩
                · exact ⟨_, rfl, .inr ⟨p, ls, C, rfl, s0.seq sq, z1, z2, hC, fun H2 s2 => eB (by omega) (by omega) C hC H2 (s0.trans s2)⟩⟩
              · have h : ¬ w = 12 := fun z => h (decide_eq_true z)
                exact ⟨rfl, s0, fun z1 z2 => g0 z1 (by omega)⟩
            · clear s0 g0
              rintro _ H1 ⟨rfl, s0, g0⟩
              refine ⟨_, rfl, _, _, rfl, rfl, _, rfl, ite2 (fun h => ?_) (fun h => ?_)⟩
              · have h : w = 13 := of_decide_eq_true h
                rcases book_or T.c_NoBook T.c_NoLight ls with hb | ⟨C, hC⟩
                · have G : Book ls ∧ (w ≤ 10 → s = []) := ⟨hb, fun z => by omega⟩
                  exact ⟨_, rfl, .inl ⟨p, ls, rfl, s0.seq sq, hb, fun H2 s2 => q (fun _ _ => G) _ (s0.trans s2)⟩⟩
                · exact ⟨_, rfl, .inr ⟨p, ls, C, rfl, s0.seq sq, z1, z2, hC, fun H2 s2 => eB (by omega) (by omega) C hC H2 (s0.trans s2)⟩⟩
              · have h : ¬ w = 13 := fun z => h (decide_eq_true z)
                exact q (fun z1 z2 => g0 z1 (by omega)) _ s0

end
end Lw
namespace Lw
open PySem PySem.Spec PyProof.Rows L2 TL
local macro_rules | `(tactic| walk_at "rd") => `(tactic| (repeat (first | refine ⟨_, rfl, ?_⟩ | refine ⟨_, _, rfl, rfl, ?_⟩ | refine ⟨rfl, ?_⟩ | refine iteT ?_)))
section
variable {P : Program} {w : World} {K : PySem.W.Frag} {mg : Str → Option Value} {base : Heap}
inductive Res (w : Int) (a : List Nat) (n : Int) (ls : List (List Nat)) (s : List Nat) : List Nat → Prop
  | light : 0 ≤ w → w ≤ 7 → ¬ Good a → Res w a n ls s (words.getD 0 [])
  | far : w = 0 → Good a → ¬ (0 ≤ n ∧ n ≤ 100) → Res w a n ls s (words.getD 2 [])
  | two : Good a → w = 6 ∨ w = 7 → Res w a n ls s (words.getD 4 [])
  | few : 8 ≤ w → w ≤ 13 → ls.length < 1 ∨ 5 < ls.length → Res w a n ls s (words.getD 1 [])
  | bad : 8 ≤ w → w ≤ 13 → 1 ≤ ls.length → ls.length ≤ 5 → (∃ l ∈ ls, ¬ Good l) → Res w a n ls s (words.getD 0 [])
  | sight : 8 ≤ w → w ≤ 10 → Book ls → BadS s → Res w a n ls s (words.getD 2 [])
  | fine : (0 ≤ w → w ≤ 7 → Good a ∧ (w = 0 → 0 ≤ n ∧ n ≤ 100)) → (8 ≤ w → w ≤ 13 → Book ls ∧ (w ≤ 10 → s = [])) → Res w a n ls s [100, 111, 110, 101]
def sp__law_tried (K : PySem.W.Frag) : Sp := fun vs H Q _ => ∃ (w : Int) (a b : List Nat) (n : Int) (p : Addr) (ls : List (List Nat)) (s : List Nat), vs = [.int w, .str (S a), .str (S b), .int n, .ref p, .str (S s)] ∧ a.length ≤ 1000 ∧ Good b ∧ SqL K H p (tx ls) ∧ ls.length ≤ 1000 ∧ (∀ l ∈ ls, l.length ≤ 1000) ∧ s.length ≤ 1000 ∧ (s = [] ∨ BadS s) ∧
  ∀ u H', Res w a n ls s u → Same H H' → Q (.str (S u)) H'
theorem ok__law_tried (T : Txt K mg) : FnOk P w K mg base CX0 8 T.a__law_tried T.d__law_tried ["which", "one", "other", "long", "book", "sight"] (sp__law_tried K) := by
  refine T.f__law_tried.ok sc__law_tried (fun vs H Q E h => ?_) (fun cdv A outer s H vs Q E hr h => ?_)
  · obtain ⟨w, a, b, n, p, ls, s, rfl, _⟩ := h
    rfl
  · obtain ⟨w, a, b, n, p, ls, s, rfl, za, gb, sq, z1, z2, z3, hss, q⟩ := h
    refine ⟨_, (pss_cons (L2N.ps_try_as (i := 6) (Wout := fun _ _ _ _ => False) rfl rfl sc__law_tried.nd rfl rfl ⟨rfl, by decide, Or.inl T.g_LampError⟩ takesN (fun W pn xe tk _ => (pss_cons (ps_expr (pe_callS (okx__law_of_lights T) (hr.mono (by decide)) (by rfl) T.g__law_of_lights T.f__law_of_lights.kp T.b__law_of_lights (fun σ => L2N.passAt tk σ) (pa_cons (pv 0) (pa_cons (pv 1) (pa_cons (pv 2) (pa_cons (pv 3) pa_nil))))))
      (pss_one (ps_expr (pe_callS (okx__law_of_books T) (hr.mono (by decide)) (by rfl) T.g__law_of_books T.f__law_of_books.kp T.b__law_of_books (fun σ => L2N.passAt tk σ) (pa_cons (pv 0) (pa_cons (pv 4) (pa_cons (pv 5) pa_nil))))))))
      (fun a oe cls d pn zn hd => (pss_one (ps_ret (pe_callW (ok__law_word_of T) (roomW (hr.mono (by decide))) (hotW zn hd) zn (by rfl) T.g__law_word_of T.f__law_word_of.kp T.b__law_word_of (pa_cons (pv 6) pa_nil))))))
      (pss_one (ps_ret (pe_S (l := [100, 111, 110, 101]) (by decide +kernel))))), ?_⟩
    refine ⟨_, rfl, _, rfl, _, rfl, _, rfl, w, a, b, n, rfl, za, gb, fun g H1 s1 => ?_, fun h1 h2 hn H1 s1 => ?_, fun h1 ga hn H1 s1 => ?_, fun ga h1 H1 s1 => ?_⟩
    · refine ⟨_, rfl, _, rfl, _, rfl, w, p, ls, s, rfl, s1.seq sq, z1, z2, z3, hss, fun g2 H2 s2 => q _ _ (Res.fine g g2) (s1.trans s2), fun h1 h2 C hC H2 s2 => ?_, fun h1 h2 hb hbs H2 s2 => ?_⟩
      · rcases hC with ⟨rfl, hC⟩ | ⟨rfl, c1, c2, c3⟩
        · refine ⟨true, T.lm_NoBook, fun _ x hx => ?_, fun z => by cases z⟩
          exact ⟨_, rfl, T.c_NoBook, 1, rfl, rfl, rfl, by decide, T.w_NoBook, fun H3 s3 => q _ _ (Res.few h1 h2 hC) (s1.trans (s2.trans s3))⟩
        · refine ⟨true, T.lm_NoLight, fun _ x hx => ?_, fun z => by cases z⟩
          exact ⟨_, rfl, T.c_NoLight, 0, rfl, rfl, rfl, by decide, T.w_NoLight, fun H3 s3 => q _ _ (Res.bad h1 h2 c1 c2 c3) (s1.trans (s2.trans s3))⟩
      · refine ⟨true, T.lm_NoSight, fun _ x hx => ?_, fun z => by cases z⟩
        exact ⟨_, rfl, T.c_NoSight, 2, rfl, rfl, rfl, by decide, T.w_NoSight, fun H3 s3 => q _ _ (Res.sight h1 h2 hb hbs) (s1.trans (s2.trans s3))⟩
    · refine ⟨true, T.lm_NoLight, fun _ x hx => ?_, fun z => by cases z⟩
      exact ⟨_, rfl, T.c_NoLight, 0, rfl, rfl, rfl, by decide, T.w_NoLight, fun H3 s3 => q _ _ (Res.light h1 h2 hn) (s1.trans s3)⟩
    · refine ⟨true, T.lm_NoSight, fun _ x hx => ?_, fun z => by cases z⟩
      exact ⟨_, rfl, T.c_NoSight, 2, rfl, rfl, rfl, by decide, T.w_NoSight, fun H3 s3 => q _ _ (Res.far h1 ga hn) (s1.trans s3)⟩
    · refine ⟨true, T.lm_TooLong, fun _ x hx => ?_, fun z => by cases z⟩
      exact ⟨_, rfl, T.c_TooLong, 4, rfl, rfl, rfl, by decide, T.w_TooLong, fun H3 s3 => q _ _ (Res.two ga h1) (s1.trans s3)⟩

end
end Lw
namespace Lw
open PySem PySem.Spec PyProof.Rows L2 TL
local macro_rules | `(tactic| walk_at "rd") => `(tactic| (repeat (first | refine ⟨_, rfl, ?_⟩ | refine ⟨_, _, rfl, rfl, ?_⟩ | refine ⟨rfl, ?_⟩ | refine iteT ?_)))
section
variable {P : Program} {w : World} {K : PySem.W.Frag} {mg : Str → Option Value} {base : Heap}
theorem not_good_sign {u : List Nat} {c : Nat} (h : c ∈ u) (hc : isSign c = false) : ¬ Good u := fun g => by
  have := g.2.2 c h
  rw [hc] at this
  cases this
def sp__law_bad_light (K : PySem.W.Frag) : Sp := fun vs H Q _ => ∃ l c, vs = [.str (S l), .int c] ∧ Good l ∧ 0 ≤ c ∧ ∀ u H', u.length ≤ 1000 → ¬ Good u → Same H H' → Q (.str (S u)) H'
theorem ok__law_bad_light (T : Txt K mg) : FnOk P w K mg base CX0 1 T.a__law_bad_light T.d__law_bad_light ["light", "cell"] (sp__law_bad_light K) := by
  refine T.f__law_bad_light.ok sc__law_bad_light (fun vs H Q E h => ?_) (fun cdv A outer s H vs Q E hr h => ?_)
  · obtain ⟨l, c, rfl, _⟩ := h
    rfl
  · obtain ⟨l, c, rfl, gl, hc0, q⟩ := h
    refine ⟨_, (pss_cons (ps_set (i := 2) sc__law_bad_light.nd rfl (by first | exact Or.inl rfl | exact Or.inr rfl) (pe_op op_mod (pe_op op_fdiv (pv 1) pe_int) (pe_op op_add (pe_callB call_lenS (by rfl) T.n_len PySem.boot_len (pa_cons (pv 0) pa_nil)) pe_int)))
      (pss_cons (ps_if (pt_cmpR op_eqI (pe_op op_mod (pv 1) pe_int) pe_int (nomark _)) (pss_one (ps_ret (pe_S (l := []) (by decide +kernel)))) pss_nil)
      (pss_cons (ps_if (pt_cmpR op_eqI (pe_op op_mod (pv 1) pe_int) pe_int (nomark _)) (pss_one (ps_ret (pe_op op_mulS (pv 0) pe_int))) pss_nil)
      (pss_cons (ps_if (pt_cmpR op_eqI (pe_op op_mod (pv 1) pe_int) pe_int (nomark _)) (pss_one (ps_ret (pe_op op_mulS (pe_S (l := [111]) (by decide +kernel)) (pe_op op_add pe_int (pe_op op_mod (pe_op op_fdiv (pv 1) pe_int) pe_int))))) pss_nil)
      (pss_cons (ps_set (i := 3) sc__law_bad_light.nd rfl (by first | exact Or.inl rfl | exact Or.inr rfl) (pe_ix ix_list (pe_lst (pa_cons (pe_S (l := [79]) (by decide +kernel)) (pa_cons (pe_S (l := [120]) (by decide +kernel)) (pa_cons (pe_S (l := [32]) (by decide +kernel)) (pa_cons (pe_S (l := [48]) (by decide +kernel)) (pa_cons (pe_S (l := [10]) (by decide +kernel)) (pa_cons (pe_S (l := [9]) (by decide +kernel)) (pa_cons (pe_S (l := [47]) (by decide +kernel)) (pa_cons (pe_S (l := [44]) (by decide +kernel)) pa_nil))))))))) (pe_op op_mod (pe_op op_fdiv (pv 1) pe_int) pe_int) (fun _ _ => rfl)))
      (pss_one (ps_ret (pe_op op_addS (pe_op op_addS (pe_slice sl_S (pv 0) po_none (po_some (pv 2))) (pv 3)) (pe_slice sl_S (pv 0) (po_some (pe_op op_add (pv 2) pe_int)) po_none))))))))), ?_⟩
    have g1 := gl.1; have g2 := gl.2.1
    refine ⟨_, rfl, _, _, rfl, rfl, ⟨by decide, by decide⟩, _, rfl, l, rfl, by omega, _, _, rfl, rfl, _, _, rfl, rfl, (by show (0 : Int) < (l.length : Int) + 1; omega), ?_⟩
    have p1 : 0 ≤ c / 5 % ((l.length : Int) + 1) := Int.emod_nonneg _ (by omega)
    have p2 : c / 5 % ((l.length : Int) + 1) < (l.length : Int) + 1 := Int.emod_lt_of_pos _ (by omega)
    refine ⟨_, rfl, _, _, rfl, rfl, (by show (0 : Int) < 5; decide), _, _, rfl, rfl, _, rfl, ite2 (fun h => ?_) (fun h => ?_)⟩
    · exact q [] _ (by decide) (fun z => by have := z.1; exact absurd this (by decide)) (Same.refl _)
    · refine ⟨_, rfl, _, _, rfl, rfl, (by show (0 : Int) < 5; decide), _, _, rfl, rfl, _, rfl, ite2 (fun h => ?_) (fun h => ?_)⟩
      · refine ⟨_, rfl, l, 13, rfl, rfl, by decide, by decide, ?_, q _ _ ?_ (fun z => ?_) (Same.refl _)⟩
        · show l.length * 13 ≤ 100000
          omega
        · rw [rep_len]
          show 13 * l.length ≤ 1000
          omega
        · have := z.2.1
          rw [rep_len] at this
          have : 13 * l.length ≤ 12 := this
          omega
      · refine ⟨_, rfl, _, _, rfl, rfl, (by show (0 : Int) < 5; decide), _, _, rfl, rfl, _, rfl, ite2 (fun h => ?_) (fun h => ?_)⟩
        · have n1 : 0 ≤ c / 5 % 100 := Int.emod_nonneg _ (by decide)
          have n2 : c / 5 % 100 < 100 := Int.emod_lt_of_pos _ (by decide)
          refine ⟨_, rfl, _, _, rfl, rfl, ⟨by decide, by decide⟩, _, _, rfl, rfl, (by show (0 : Int) < 100; decide), _, _, rfl, rfl, [111], 13 + c / 5 % 100, rfl, rfl, by omega, by omega, by show 1 * _ ≤ 100000; omega, q _ _ ?_ (fun z => ?_) (Same.refl _)⟩
          · rw [rep_len]
            show _ * 1 ≤ 1000
            omega
          · have := z.2.1
            rw [rep_len] at this
            have : (13 + c / 5 % 100).toNat * 1 ≤ 12 := this
            omega
        · refine ⟨line_of (by show 8 ≤ 100000; decide), fun L hL => ?_⟩
          have s1 := same_upd (o := .lst (tx [[79], [120], [32], [48], [10], [9], [47], [44]])) hL
          have d1 : 0 ≤ c / 90 % 8 := Int.emod_nonneg _ (by decide)
          have d2 : c / 90 % 8 < 8 := Int.emod_lt_of_pos _ (by decide)
          have hall : ∀ j : Nat, j < 8 → ∃ x : Nat, ([[79], [120], [32], [48], [10], [9], [47], [44]] : List (List Nat))[j]? = some [x] ∧ isSign x = false := by
            intro j hj
            match j, hj with
            | 0, _ => exact ⟨_, rfl, rfl⟩
            | 1, _ => exact ⟨_, rfl, rfl⟩
            | 2, _ => exact ⟨_, rfl, rfl⟩
            | 3, _ => exact ⟨_, rfl, rfl⟩
            | 4, _ => exact ⟨_, rfl, rfl⟩
            | 5, _ => exact ⟨_, rfl, rfl⟩
            | 6, _ => exact ⟨_, rfl, rfl⟩
            | 7, _ => exact ⟨_, rfl, rfl⟩
          obtain ⟨x, hx, hxs⟩ := hall (c / 90 % 8).toNat (by omega)
          refine ⟨_, rfl, _, _, rfl, rfl, ⟨by decide, by decide⟩, _, _, rfl, rfl, (by show (0 : Int) < 8; decide), L, _, _, _, rfl, rfl, SqL.of upd_same, atN (j := (c / 90 % 8).toNat) (by omega) (tx_at hx), ?_⟩
          have e1 : cutL l none (some (c / 5 % ((l.length : Int) + 1))) = l.take (c / 5 % ((l.length : Int) + 1)).toNat := by
            have := cutL_to l (c / 5 % ((l.length : Int) + 1)).toNat
            rw [Int.toNat_of_nonneg p1] at this
            exact this
          have e3 : cutL l (some (c / 5 % ((l.length : Int) + 1) + 1)) none = l.drop ((c / 5 % ((l.length : Int) + 1)).toNat + 1) := by
            have := cutL_from l ((c / 5 % ((l.length : Int) + 1)).toNat + 1)
            rw [show (((c / 5 % ((l.length : Int) + 1)).toNat + 1 : Nat) : Int) = c / 5 % ((l.length : Int) + 1) + 1 by omega] at this
            exact this
          refine ⟨_, rfl, _, rfl, _, rfl, l, rfl, by omega, _, rfl, _, _, rfl, rfl, by rw [e1, List.length_take]; show _ + 1 ≤ 100000; omega, _, rfl, _, rfl, _, _, rfl, rfl, _, rfl, l, rfl, by omega, _, _, rfl, rfl, by rw [e1, e3, List.length_append, List.length_take, List.length_drop]; show _ + 1 + _ ≤ 100000; omega, ?_⟩
          refine q _ _ ?_ (not_good_sign (c := x) ?_ hxs) s1
          · rw [e1, e3, List.length_append, List.length_append, List.length_take, List.length_drop]
            show _ + 1 + _ ≤ 1000
            omega
          · exact List.mem_append_left _ (List.mem_append_right _ (List.mem_singleton.mpr rfl))

end
end Lw
namespace Lw
open PySem PySem.Spec PyProof.Rows L2 TL
local macro_rules | `(tactic| walk_at "rd") => `(tactic| (repeat (first | refine ⟨_, rfl, ?_⟩ | refine ⟨_, _, rfl, rfl, ?_⟩ | refine ⟨rfl, ?_⟩ | refine iteT ?_)))
section
variable {P : Program} {w : World} {K : PySem.W.Frag} {mg : Str → Option Value} {base : Heap}
abbrev uLight : List Nat := [108, 105, 103, 104, 116]
abbrev uBook : List Nat := [98, 111, 111, 107]
abbrev uSight : List Nat := [115, 105, 103, 104, 116]
def tg (b : Bool) (m : List Nat) : List (List Nat) := if b = true then [m] else []
theorem tg_len (b : Bool) (m : List Nat) : (tg b m).length ≤ 1 := by
  cases b with
  | false => exact Nat.zero_le _
  | true => exact Nat.le_refl _
def SizeBad (ls : List (List Nat)) : Prop := ls.length < 1 ∨ 5 < ls.length
def LightBad (ls : List (List Nat)) : Prop := ∃ l ∈ ls, ¬ Good l
theorem bad_long {n c : Nat} (h : 100 < n) : BadS (rep n [c]) := fun z => by
  have := z.1
  rw [rep_len] at this
  have : n * 1 ≤ 100 := this
  omega
theorem bad_sign {u : List Nat} {c : Nat} (h : c ∈ u) (hc : isSign c = false) : BadS u := fun z => by
  have := z.2 c h
  rw [hc] at this
  cases this
def sp__law_spoilt (K : PySem.W.Frag) : Sp := fun vs H Q _ => ∃ (a : Addr) (ns : List Int) (b p : Addr) (ls bs : List (List Nat)) (H0 : Hp), vs = [.ref a, .ref b, .ref p] ∧ SqL K H0 a (ns.map V.int) ∧ H0 p = none ∧ Same H0 H ∧ H b = some (.lst (tx ls)) ∧ Book ls ∧ b ≠ p ∧ H p = some (.lst (tx bs)) ∧ bs.length ≤ 100 ∧
  ∀ (t q : Addr) (ls' : List (List Nat)) (s' : List Nat) (x y z : Bool) (H' : Hp), (y = true ↔ SizeBad ls') → (y = false → (x = true ↔ LightBad ls')) → (z = true → BadS s') → (z = false → s' = []) → ls'.length ≤ 1000 → (∀ l ∈ ls', l.length ≤ 1000) → s'.length ≤ 1000 →
    H' t = some (.tup [.ref q, .str (S s')]) → H' q = some (.lst (tx ls')) → q ≠ p → H' p = some (.lst (tx (bs ++ tg x uLight ++ tg y uBook ++ tg z uSight))) → Q (.ref t) H'
theorem ok__law_spoilt (T : Txt K mg) : FnOk P w K mg base CX0 2 T.a__law_spoilt T.d__law_spoilt ["script", "book", "bad"] (sp__law_spoilt K) := by
  refine T.f__law_spoilt.ok sc__law_spoilt (fun vs H Q E h => ?_) (fun cdv A outer s H vs Q E hr h => ?_)
  · obtain ⟨a, ns, b, p, ls, bs, H0, rfl, _⟩ := h
    rfl
  · obtain ⟨a, ns, b, p, ls, bs, H0, rfl, hs, hp0, s0, hbk, hb, hne, hp, hbs, q⟩ := h
    refine ⟨_, (pss_cons (ps_set (i := 3) sc__law_spoilt.nd rfl (by first | exact Or.inl rfl | exact Or.inr rfl) (pe_S (l := []) (by decide +kernel)))
      (Evl.pss_cut (ps_if (pt_cmpR op_eqI (pe_op op_mod (pe_call (ok__law_cell_at T) (hr.mono (by decide)) (by rfl) T.g__law_cell_at T.f__law_cell_at.kp T.b__law_cell_at .nil pass0 (pa_cons (pv 0) (pa_cons pe_int pa_nil))) pe_int) pe_int (nomark _)) (pss_cons (ps_set (i := 4) sc__law_spoilt.nd rfl (by first | exact Or.inl rfl | exact Or.inr rfl) (pe_op op_mod (pe_call (ok__law_cell_at T) (hr.mono (by decide)) (by rfl) T.g__law_cell_at T.f__law_cell_at.kp T.b__law_cell_at .nil pass0 (pa_cons (pv 0) (pa_cons pe_int pa_nil))) (pe_callB call_lenL (by rfl) T.n_len PySem.boot_len (pa_cons (pv 1) pa_nil))))
      (pss_cons (ps_set (i := 1) sc__law_spoilt.nd rfl (by first | exact Or.inl rfl | exact Or.inr rfl) (pe_op op_cat (pe_op op_cat (pe_slice sl_list (pv 1) po_none (po_some (pv 4))) (pe_lst (pa_cons (pe_call (ok__law_bad_light T) (hr.mono (by decide)) (by rfl) T.g__law_bad_light T.f__law_bad_light.kp T.b__law_bad_light .nil pass0 (pa_cons (pe_ix ix_list (pv 1) (pv 4) (fun _ _ => rfl)) (pa_cons (pe_op op_mod (pe_call (ok__law_cell_at T) (hr.mono (by decide)) (by rfl) T.g__law_cell_at T.f__law_cell_at.kp T.b__law_cell_at .nil pass0 (pa_cons (pv 0) (pa_cons pe_int pa_nil))) (pe_op op_pow pe_int pe_int)) pa_nil))) pa_nil))) (pe_slice sl_list (pv 1) (po_some (pe_op op_add (pv 4) pe_int)) po_none)))
      (pss_one (ps_expr (pe_bm PySem.F.plainAttrs_list PySem.F.slot_list_append PySem.F.type_list_append mt_append (pv 2) (pa_cons (pe_S (l := [108, 105, 103, 104, 116]) (by decide +kernel)) pa_nil)))))) pss_nil)
      (Evl.pss_cut (ps_if (pt_cmpR op_eqI (pe_op op_mod (pe_call (ok__law_cell_at T) (hr.mono (by decide)) (by rfl) T.g__law_cell_at T.f__law_cell_at.kp T.b__law_cell_at .nil pass0 (pa_cons (pv 0) (pa_cons pe_int pa_nil))) pe_int) pe_int (nomark _)) (pss_cons (ps_set (i := 1) sc__law_spoilt.nd rfl (by first | exact Or.inl rfl | exact Or.inr rfl) (pe_ix ix_list (pe_lst (pa_cons (pe_lst pa_nil) (pa_cons (pe_op op_cat (pv 1) (pe_lst (pa_cons (pe_S (l := [111]) (by decide +kernel)) (pa_cons (pe_S (l := [46]) (by decide +kernel)) (pa_cons (pe_S (l := [111, 46]) (by decide +kernel)) (pa_cons (pe_S (l := [111, 111, 46]) (by decide +kernel)) (pa_cons (pe_S (l := [111, 46, 46]) (by decide +kernel)) pa_nil))))))) pa_nil))) (pe_op op_mod (pe_op op_fdiv (pe_call (ok__law_cell_at T) (hr.mono (by decide)) (by rfl) T.g__law_cell_at T.f__law_cell_at.kp T.b__law_cell_at .nil pass0 (pa_cons (pv 0) (pa_cons pe_int pa_nil))) pe_int) pe_int) (fun _ _ => rfl)))
      (pss_one (ps_expr (pe_bm PySem.F.plainAttrs_list PySem.F.slot_list_append PySem.F.type_list_append mt_append (pv 2) (pa_cons (pe_S (l := [98, 111, 111, 107]) (by decide +kernel)) pa_nil))))) pss_nil)
      (Evl.pss_cut (ps_if (pt_cmpR op_eqI (pe_op op_mod (pe_call (ok__law_cell_at T) (hr.mono (by decide)) (by rfl) T.g__law_cell_at T.f__law_cell_at.kp T.b__law_cell_at .nil pass0 (pa_cons (pv 0) (pa_cons pe_int pa_nil))) pe_int) pe_int (nomark _)) (pss_cons (ps_set (i := 3) sc__law_spoilt.nd rfl (by first | exact Or.inl rfl | exact Or.inr rfl) (pe_ix ix_list (pe_lst (pa_cons (pe_op op_mulS (pe_S (l := [111]) (by decide +kernel)) pe_int) (pa_cons (pe_S (l := [111, 46, 120]) (by decide +kernel)) (pa_cons (pe_S (l := [10]) (by decide +kernel)) (pa_cons (pe_S (l := [32]) (by decide +kernel)) (pa_cons (pe_op op_mulS (pe_S (l := [46]) (by decide +kernel)) pe_int) pa_nil)))))) (pe_op op_mod (pe_op op_fdiv (pe_call (ok__law_cell_at T) (hr.mono (by decide)) (by rfl) T.g__law_cell_at T.f__law_cell_at.kp T.b__law_cell_at .nil pass0 (pa_cons (pv 0) (pa_cons pe_int pa_nil))) pe_int) pe_int) (fun _ _ => rfl)))
      (pss_one (ps_expr (pe_bm PySem.F.plainAttrs_list PySem.F.slot_list_append PySem.F.type_list_append mt_append (pv 2) (pa_cons (pe_S (l := [115, 105, 103, 104, 116]) (by decide +kernel)) pa_nil))))) pss_nil)
      (pss_one (ps_ret (pe_tup (pa_cons (pv 1) (pa_cons (pv 3) pa_nil))))))))), ?_⟩
    have b1 := hb.1; have b2 := hb.2.1
    have hlen : (tx ls).length = ls.length := List.length_map _
    -- the light spoilt
    refine ⟨fun σ H' => ∃ q1 ls1 x y4, σ = [some (.ref a), some (.ref q1), some (.ref p), some (.str (S [])), y4] ∧ H' q1 = some (.lst (tx ls1)) ∧ q1 ≠ p ∧ H' p = some (.lst (tx (bs ++ tg x uLight))) ∧ Same H0 H' ∧ 1 ≤ ls1.length ∧ ls1.length ≤ 5 ∧ (∀ l ∈ ls1, l.length ≤ 1000) ∧ (x = true ↔ LightBad ls1), ?_, ?_⟩
    · refine ⟨_, rfl, a, ns, _, rfl, s0.seq hs, by decide, fun v1 H1 s1 => ⟨_, _, rfl, rfl, (by show (0 : Int) < 4; decide), _, _, rfl, rfl, _, rfl, ite2 (fun h => ?_) (fun h => ?_)⟩⟩
      · have s01 := s0.trans s1
        refine ⟨_, rfl, a, ns, _, rfl, s01.seq hs, by decide, fun v2 H2 s2 => ⟨_, rfl, b, _, rfl, SqL.of (s2 _ _ (s1 _ _ hbk)), _, _, rfl, rfl, by omega, ?_⟩⟩
        have j1 : 0 ≤ v2 % ((tx ls).length : Int) := Int.emod_nonneg _ (by omega)
        have j2 : v2 % ((tx ls).length : Int) < (tx ls).length := Int.emod_lt_of_pos _ (by omega)
        have ej : v2 % ((tx ls).length : Int) = (((v2 % ((tx ls).length : Int)).toNat : Nat) : Int) := by omega
        have jl : (v2 % ((tx ls).length : Int)).toNat < ls.length := by omega
        have s12 := s1.trans s2
        refine ⟨_, rfl, _, rfl, _, rfl, b, _, rfl, SqL.of (s12 _ _ hbk), fun c1 hc1 => ?_⟩
        have s3 := same_upd (o := .lst (cutV (tx ls) none (some (v2 % ((tx ls).length : Int))))) hc1
        have s13 := s12.trans s3
        refine ⟨_, rfl, _, rfl, b, _, _, .str (S (lt ls (v2 % ((tx ls).length : Int)).toNat)), rfl, rfl, SqL.of (s13 _ _ hbk), atN (j := (v2 % ((tx ls).length : Int)).toNat) ej (tx_at (lt_get jl)), ?_⟩
        have gl := lt_good hb jl
        refine ⟨_, rfl, a, ns, _, rfl, (s0.trans s13).seq hs, by decide, fun v3 H4 s4 => ⟨_, _, rfl, rfl, ⟨by decide, by decide, by decide⟩, _, _, rfl, rfl, (by show (0 : Int) < 10 ^ (6 : Int).toNat; decide), ?_⟩⟩
        refine ⟨lt ls (v2 % ((tx ls).length : Int)).toNat, _, rfl, gl, Int.emod_nonneg _ (by decide), fun u H5 hu hug s5 => ⟨line_of (by show 1 ≤ 100000; decide), fun c2 hc2 => ?_⟩⟩
        have s6 := same_upd (o := .lst [V.str (S u)]) hc2
        have e1 : cutV (tx ls) none (some (v2 % ((tx ls).length : Int))) = tx (ls.take (v2 % ((tx ls).length : Int)).toNat) := by
          have := cut_tx_to ls (v2 % ((tx ls).length : Int)).toNat
          rw [← ej] at this
          exact this
        have e2 : cutV (tx ls) (some (v2 % ((tx ls).length : Int) + 1)) none = tx (ls.drop ((v2 % ((tx ls).length : Int)).toNat + 1)) := by
          have := cut_tx_from ls ((v2 % ((tx ls).length : Int)).toNat + 1)
          rw [show (((v2 % ((tx ls).length : Int)).toNat + 1 : Nat) : Int) = v2 % ((tx ls).length : Int) + 1 by omega] at this
          exact this
        have lcut : (cutV (tx ls) none (some (v2 % ((tx ls).length : Int)))).length ≤ 5 := by rw [e1, List.length_map, List.length_take]; omega
        refine ⟨_, _, _, _, rfl, rfl, s6 _ _ (s5 _ _ (s4 _ _ upd_same)), upd_same, line_of (by show _ + 1 ≤ 100000; omega), fun c3 hc3 => ?_⟩
        have s7 := same_upd (o := .lst (cutV (tx ls) none (some (v2 % ((tx ls).length : Int))) ++ [V.str (S u)])) hc3
        have s17 := s13.trans (s4.trans (s5.trans (s6.trans s7)))
        refine ⟨_, rfl, _, rfl, _, _, rfl, rfl, _, rfl, b, _, rfl, SqL.of (s17 _ _ hbk), fun c4 hc4 => ?_⟩
        have s8 := same_upd (o := .lst (cutV (tx ls) (some (v2 % ((tx ls).length : Int) + 1)) none)) hc4
        have lcut2 : (cutV (tx ls) (some (v2 % ((tx ls).length : Int) + 1)) none).length ≤ 5 := by rw [e2, List.length_map, List.length_drop]; omega
        refine ⟨_, _, _, _, rfl, rfl, s8 _ _ upd_same, upd_same, line_of (by rw [List.length_append]; show _ + 1 + _ ≤ 100000; omega), fun c5 hc5 => ?_⟩
        have s9 := same_upd (o := .lst (cutV (tx ls) none (some (v2 % ((tx ls).length : Int))) ++ [V.str (S u)] ++ cutV (tx ls) (some (v2 % ((tx ls).length : Int) + 1)) none)) hc5
        have s19 := s17.trans (s8.trans s9)
        have hp9 := s19 _ _ hp
        have hne5 : c5 ≠ p := fun z => by rw [z] at hc5; rw [(s17.trans s8) _ _ hp] at hc5; cases hc5
        refine ⟨_, rfl, .inl ⟨rfl, _, SqL.of hp9⟩, p, _, _, rfl, rfl, hp9, line_lt (by rw [List.length_map]; omega), c5, ls.take (v2 % ((tx ls).length : Int)).toNat ++ [u] ++ ls.drop ((v2 % ((tx ls).length : Int)).toNat + 1), true, _, rfl, ?_, hne5, ?_, Same_mut (s0.trans s19) hp0, ?_, ?_, ?_, ?_⟩
        · rw [upd_ne hne5, upd_same, e1, e2]
          unfold tx
          rw [List.map_append, List.map_append]
          rfl
        · rw [upd_same]
          unfold tx
          rw [List.map_append]
          rfl
        · rw [List.length_append, List.length_append]
          show 1 ≤ _ + 1 + _
          omega
        · rw [List.length_append, List.length_append, List.length_take, List.length_drop]
          show _ + 1 + _ ≤ 5
          omega
        · intro l hl
          have low : ∀ l' ∈ ls, l'.length ≤ 1000 := fun l' hl' => by have := (hb.2.2 l' hl').2.1; omega
          rcases List.mem_append.mp hl with hl | hl
          · rcases List.mem_append.mp hl with hl | hl
            · exact low l (List.mem_of_mem_take hl)
            · rw [List.mem_singleton.mp hl]; exact hu
          · exact low l (List.mem_of_mem_drop hl)
        · exact ⟨fun _ => ⟨u, List.mem_append_left _ (List.mem_append_right _ (List.mem_singleton.mpr rfl)), hug⟩, fun _ => rfl⟩
      · refine ⟨b, ls, false, _, rfl, s1 _ _ hbk, hne, ?_, s0.trans s1, b1, b2, fun l hl => by have := (hb.2.2 l hl).2.1; omega, ⟨fun z => (by cases z), fun z => ?_⟩⟩
        · rw [show tg false uLight = [] from rfl, List.append_nil]
          exact s1 _ _ hp
        · obtain ⟨l, hl, hn⟩ := z
          exact absurd (hb.2.2 l hl) hn
    · clear hp hbk s0
      rintro σ H1 ⟨q1, ls1, x, y4, rfl, hq1, hne1, hp1, s01, c1, c2, c3, hx⟩
      have lp : (tx (bs ++ tg x uLight)).length ≤ 101 := by
        have := tg_len x uLight
        rw [List.length_map, List.length_append]; omega
      -- the book spoilt
      refine ⟨fun σ H' => ∃ q1 ls1 y y4, σ = [some (.ref a), some (.ref q1), some (.ref p), some (.str (S [])), y4] ∧ H' q1 = some (.lst (tx ls1)) ∧ q1 ≠ p ∧ H' p = some (.lst (tx (bs ++ tg x uLight ++ tg y uBook))) ∧ Same H0 H' ∧ ls1.length ≤ 1000 ∧ (∀ l ∈ ls1, l.length ≤ 1000) ∧ (y = true ↔ SizeBad ls1) ∧ (y = false → (x = true ↔ LightBad ls1)), ?_, ?_⟩
      · refine ⟨_, rfl, a, ns, _, rfl, s01.seq hs, by decide, fun v1 H2 s2 => ⟨_, _, rfl, rfl, (by show (0 : Int) < 4; decide), _, _, rfl, rfl, _, rfl, ite2 (fun h => ?_) (fun h => ?_)⟩⟩
        · refine ⟨line_of (by show 0 ≤ 100000; decide), fun d1 hd1 => ?_⟩
          have s3 := same_upd (o := .lst []) hd1
          refine ⟨_, rfl, line_of (by show 5 ≤ 100000; decide), fun d2 hd2 => ?_⟩
          have s4 := same_upd (o := .lst (tx [[111], [46], [111, 46], [111, 111, 46], [111, 46, 46]])) hd2
          have hl1 : (tx ls1).length = ls1.length := List.length_map _
          refine ⟨_, _, _, _, rfl, rfl, s4 _ _ (s3 _ _ (s2 _ _ hq1)), upd_same, line_of (by show _ + 5 ≤ 100000; omega), fun d3 hd3 => ?_⟩
          have s5 := same_upd (o := .lst (tx ls1 ++ tx [[111], [46], [111, 46], [111, 111, 46], [111, 46, 46]])) hd3
          refine ⟨line_of (by show 2 ≤ 100000; decide), fun d4 hd4 => ?_⟩
          have s6 := same_upd (o := .lst [V.ref d1, V.ref d3]) hd4
          have s26 := s2.trans (s3.trans (s4.trans (s5.trans s6)))
          have hd1' := (s4.trans (s5.trans s6)) _ _ (upd_same (H := H2) (a := d1) (o := HO.lst []))
          have hd3' := s6 _ _ (upd_same (a := d3) (o := HO.lst (tx ls1 ++ tx [[111], [46], [111, 46], [111, 111, 46], [111, 46, 46]])))
          have hne11 : d1 ≠ p := fun z => by rw [z] at hd1; rw [s2 _ _ hp1] at hd1; cases hd1
          have hne33 : d3 ≠ p := fun z => by
            rw [z] at hd3
            have e2 := hd3.symm.trans ((s2.trans (s3.trans s4)) _ _ hp1)
            cases e2
          refine ⟨_, rfl, a, ns, _, rfl, (s01.trans s26).seq hs, by decide, fun v2 H7 s7 => ⟨_, _, rfl, rfl, ⟨by decide, by decide⟩, _, _, rfl, rfl, (by show (0 : Int) < 2; decide), ?_⟩⟩
          have s27 := s26.trans s7
          have hp7 := s27 _ _ hp1
          have k1 : 0 ≤ v2 / 4 % 2 := Int.emod_nonneg _ (by decide)
          have k2 : v2 / 4 % 2 < 2 := Int.emod_lt_of_pos _ (by decide)
          have hk : ∃ q2 ls2, atI [V.ref d1, V.ref d3] (v2 / 4 % 2) = some (.ref q2) ∧ H7 q2 = some (.lst (tx ls2)) ∧ q2 ≠ p ∧ ls2.length ≤ 1000 ∧ (∀ l ∈ ls2, l.length ≤ 1000) ∧ SizeBad ls2 := by
            by_cases h0 : v2 / 4 % 2 = 0
            · rw [h0]
              exact ⟨d1, [], rfl, s7 _ _ hd1', hne11, by decide, fun l hl => (nomatch hl), .inl (by decide)⟩
            · have h1 : v2 / 4 % 2 = 1 := by omega
              rw [h1]
              refine ⟨d3, ls1 ++ [[111], [46], [111, 46], [111, 111, 46], [111, 46, 46]], rfl, ?_, hne33, ?_, ?_, ?_⟩
              · rw [s7 _ _ hd3']
                unfold tx
                rw [List.map_append]
              · rw [List.length_append]
                show _ + 5 ≤ 1000
                omega
              · intro l hl
                rcases List.mem_append.mp hl with z | z
                · exact c3 l z
                · simp only [List.mem_cons, List.not_mem_nil, or_false] at z
                  rcases z with rfl | rfl | rfl | rfl | rfl <;> decide
              · refine .inr ?_
                rw [List.length_append]
                show 5 < _ + 5
                omega
          obtain ⟨q2, ls2, hat, hq2, hne2, m1, m2, m3⟩ := hk
          refine ⟨d4, _, _, _, rfl, rfl, SqL.of (s7 _ _ upd_same), hat, ?_⟩
          refine ⟨_, rfl, .inl ⟨rfl, _, SqL.of hp7⟩, p, _, _, rfl, rfl, hp7, line_lt (by omega), q2, ls2, true, _, rfl, ?_, hne2, ?_, Same_mut (s01.trans s27) hp0, m1, m2, ⟨fun _ => m3, fun _ => rfl⟩, fun z => (by cases z)⟩
          · rw [upd_ne hne2]
            exact hq2
          · rw [upd_same]
            unfold tx
            rw [List.map_append (l₁ := bs ++ tg x uLight)]
            rfl
        · refine ⟨q1, ls1, false, _, rfl, s2 _ _ hq1, hne1, ?_, s01.trans s2, by omega, c3, ⟨fun z => (by cases z), fun z => ?_⟩, fun _ => hx⟩
          · rw [show tg false uBook = [] from rfl, List.append_nil]
            exact s2 _ _ hp1
          · rcases z with z | z <;> omega
      · clear hp1 hq1 hne1 s01 c1 c2 c3 hx lp
        rintro σ H2 ⟨q1, ls1, y, y4, rfl, hq1, hne1, hp1, s01, c1, c2, hy, hx⟩
        have lp : (tx (bs ++ tg x uLight ++ tg y uBook)).length ≤ 102 := by
          have := tg_len x uLight
          have := tg_len y uBook
          rw [List.length_map, List.length_append, List.length_append]; omega
        -- the sight spoilt
        refine ⟨fun σ H' => ∃ s' z y4, σ = [some (.ref a), some (.ref q1), some (.ref p), some (.str (S s')), y4] ∧ H' q1 = some (.lst (tx ls1)) ∧ H' p = some (.lst (tx (bs ++ tg x uLight ++ tg y uBook ++ tg z uSight))) ∧ s'.length ≤ 1000 ∧ (z = true → BadS s') ∧ (z = false → s' = []), ?_, ?_⟩
        · refine ⟨_, rfl, a, ns, _, rfl, s01.seq hs, by decide, fun v1 H3 s3 => ⟨_, _, rfl, rfl, (by show (0 : Int) < 4; decide), _, _, rfl, rfl, _, rfl, ite2 (fun h => ?_) (fun h => ?_)⟩⟩
          · refine ⟨[111], 101, rfl, rfl, by decide, by decide, by decide, [46], 150, rfl, rfl, by decide, by decide, by decide, line_of (by show 5 ≤ 100000; decide), fun d hd => ?_⟩
            have s4 := same_upd (o := .lst (tx [rep 101 [111], [111, 46, 120], [10], [32], rep 150 [46]])) hd
            refine ⟨_, rfl, a, ns, _, rfl, (s01.trans (s3.trans s4)).seq hs, by decide, fun v2 H5 s5 => ⟨_, _, rfl, rfl, ⟨by decide, by decide⟩, _, _, rfl, rfl, (by show (0 : Int) < 5; decide), ?_⟩⟩
            have k1 : 0 ≤ v2 / 4 % 5 := Int.emod_nonneg _ (by decide)
            have k2 : v2 / 4 % 5 < 5 := Int.emod_lt_of_pos _ (by decide)
            have hall : ∀ j : Nat, j < 5 → ∃ u : List Nat, ([rep 101 [111], [111, 46, 120], [10], [32], rep 150 [46]] : List (List Nat))[j]? = some u ∧ BadS u ∧ u.length ≤ 1000 := by
              intro j hj
              match j, hj with
              | 0, _ => exact ⟨_, rfl, bad_long (by decide), by rw [rep_len]; decide⟩
              | 1, _ => exact ⟨_, rfl, bad_sign (c := 120) (by decide) rfl, by decide⟩
              | 2, _ => exact ⟨_, rfl, bad_sign (c := 10) (by decide) rfl, by decide⟩
              | 3, _ => exact ⟨_, rfl, bad_sign (c := 32) (by decide) rfl, by decide⟩
              | 4, _ => exact ⟨_, rfl, bad_long (by decide), by rw [rep_len]; decide⟩
            obtain ⟨u, hu, hub, hul⟩ := hall (v2 / 4 % 5).toNat (by omega)
            have s25 := s3.trans (s4.trans s5)
            have hp5 := s25 _ _ hp1
            refine ⟨d, _, _, .str (S u), rfl, rfl, SqL.of (s5 _ _ upd_same), atN (j := (v2 / 4 % 5).toNat) (by omega) (tx_at hu), ?_⟩
            refine ⟨_, rfl, .inl ⟨rfl, _, SqL.of hp5⟩, p, _, _, rfl, rfl, hp5, line_lt (by omega), u, true, _, rfl, ?_, ?_, hul, fun _ => hub, fun z => (by cases z)⟩
            · rw [upd_ne hne1]
              exact s25 _ _ hq1
            · rw [upd_same]
              unfold tx
              rw [List.map_append (l₁ := bs ++ tg x uLight ++ tg y uBook)]
              rfl
          · refine ⟨[], false, _, rfl, s3 _ _ hq1, ?_, by decide, fun z => (by cases z), fun _ => rfl⟩
            rw [show tg false uSight = [] from rfl, List.append_nil]
            exact s3 _ _ hp1
        · rintro σ H3 ⟨s', z, y5, rfl, hq3, hp3, hsl, hz1, hz2⟩
          refine ⟨_, rfl, _, rfl, line_of (by show 2 ≤ 100000; decide), fun t ht => ?_⟩
          have s4 := same_upd (o := .tup [V.ref q1, V.str (S s')]) ht
          exact q t q1 ls1 s' x y z _ hy hx hz1 hz2 c1 c2 hsl upd_same (s4 _ _ hq3) hne1 (s4 _ _ hp3)

end
end Lw
namespace Lw
open PySem PySem.Spec PyProof.Rows L2 TL
local macro_rules | `(tactic| walk_at "rd") => `(tactic| (repeat (first | refine ⟨_, rfl, ?_⟩ | refine ⟨_, _, rfl, rfl, ?_⟩ | refine ⟨rfl, ?_⟩ | refine iteT ?_)))
section
variable {P : Program} {w : World} {K : PySem.W.Frag} {mg : Str → Option Value} {base : Heap}
abbrev wOne : List Nat := [111, 110, 101]
abbrev wLong : List Nat := [108, 111, 110, 103]
abbrev wBook : List Nat := [98, 111, 111, 107]
abbrev wLight : List Nat := [108, 105, 103, 104, 116]
abbrev wSight : List Nat := [115, 105, 103, 104, 116]
abbrev wDone : List Nat := [100, 111, 110, 101]
def dueW (w : Int) (bs : List (List Nat)) : List Nat :=
  if w < 8 ∧ wOne ∈ bs then wLight else if w = 0 ∧ wLong ∈ bs then wSight else if 7 < w ∧ wBook ∈ bs then wBook else if 7 < w ∧ wLight ∈ bs then wLight else if (7 < w ∧ w < 11) ∧ wSight ∈ bs then wSight else wDone
def sp__law_due (K : PySem.W.Frag) : Sp := fun vs H Q _ => ∃ (w : Int) (p : Addr) (bs : List (List Nat)), vs = [.int w, .ref p] ∧ SqL K H p (tx bs) ∧ ∀ H', Same H H' → Q (.str (S (dueW w bs))) H'
theorem ok__law_due (T : Txt K mg) : FnOk P w K mg base CX0 1 T.a__law_due T.d__law_due ["which", "bad"] (sp__law_due K) := by
  refine T.f__law_due.ok sc__law_due (fun vs H Q E h => ?_) (fun cdv A outer s H vs Q E hr h => ?_)
  · obtain ⟨w, p, bs, rfl, _⟩ := h
    rfl
  · obtain ⟨w, p, bs, rfl, sq, q⟩ := h
    refine ⟨_, (Evl.pss_cut (ps_if (PW.pt (pw_and (pt_cmpR op_lt (pv 0) pe_int (nomark _)) (pw_and1 (pt_cmpR op_inL (pe_S (l := [111, 110, 101]) (by decide +kernel)) (pv 1) (by rfl))))) (pss_one (ps_ret (pe_S (l := [108, 105, 103, 104, 116]) (by decide +kernel)))) pss_nil)
      (Evl.pss_cut (ps_if (PW.pt (pw_and (pt_cmpR op_eqI (pv 0) pe_int (nomark _)) (pw_and1 (pt_cmpR op_inL (pe_S (l := [108, 111, 110, 103]) (by decide +kernel)) (pv 1) (by rfl))))) (pss_one (ps_ret (pe_S (l := [115, 105, 103, 104, 116]) (by decide +kernel)))) pss_nil)
      (Evl.pss_cut (ps_if (PW.pt (pw_and (pt_cmpR op_gt (pv 0) pe_int (nomark _)) (pw_and1 (pt_cmpR op_inL (pe_S (l := [98, 111, 111, 107]) (by decide +kernel)) (pv 1) (by rfl))))) (pss_one (ps_ret (pe_S (l := [98, 111, 111, 107]) (by decide +kernel)))) pss_nil)
      (Evl.pss_cut (ps_if (PW.pt (pw_and (pt_cmpR op_gt (pv 0) pe_int (nomark _)) (pw_and1 (pt_cmpR op_inL (pe_S (l := [108, 105, 103, 104, 116]) (by decide +kernel)) (pv 1) (by rfl))))) (pss_one (ps_ret (pe_S (l := [108, 105, 103, 104, 116]) (by decide +kernel)))) pss_nil)
      (Evl.pss_cut (ps_if (PW.pt (pw_and (pt_chain op_lt op_lt pe_int (pv 0) pe_int) (pw_and1 (pt_cmpR op_inL (pe_S (l := [115, 105, 103, 104, 116]) (by decide +kernel)) (pv 1) (by rfl))))) (pss_one (ps_ret (pe_S (l := [115, 105, 103, 104, 116]) (by decide +kernel)))) pss_nil)
      (pss_one (ps_ret (pe_S (l := [100, 111, 110, 101]) (by decide +kernel))))))))), ?_⟩
    have q := q H (Same.refl _)
    unfold dueW at q
    refine ⟨fun σ H' => σ = [some (.int w), some (.ref p)] ∧ H' = H ∧ ¬ ((w < 8) ∧ wOne ∈ bs), ?_, ?_⟩
    · refine ⟨_, rfl, _, _, rfl, rfl, _, rfl, ite2 (fun h => ?_) (fun h => ?_)⟩
      · have h : w < 8 := of_decide_eq_true h
        refine ⟨_, rfl, wOne, p, bs, rfl, rfl, sq, _, rfl, ite2 (fun m => ?_) (fun m => ?_)⟩
        · have m : wOne ∈ bs := of_decide_eq_true m
          rw [if_pos ⟨h, m⟩] at q
          exact q
        · exact ⟨rfl, rfl, fun z => m (decide_eq_true z.2)⟩
      · exact ⟨rfl, rfl, fun z => h (decide_eq_true z.1)⟩
    · rintro _ H1 ⟨rfl, eH, n0⟩
      have eH := eH.symm
      subst eH
      refine ⟨fun σ H' => σ = [some (.int w), some (.ref p)] ∧ H' = H ∧ ¬ ((w = 0) ∧ wLong ∈ bs), ?_, ?_⟩
      · refine ⟨_, rfl, _, _, rfl, rfl, _, rfl, ite2 (fun h => ?_) (fun h => ?_)⟩
        · have h : w = 0 := of_decide_eq_true h
          refine ⟨_, rfl, wLong, p, bs, rfl, rfl, sq, _, rfl, ite2 (fun m => ?_) (fun m => ?_)⟩
          · have m : wLong ∈ bs := of_decide_eq_true m
            rw [if_neg n0, if_pos ⟨h, m⟩] at q
            exact q
          · exact ⟨rfl, rfl, fun z => m (decide_eq_true z.2)⟩
        · exact ⟨rfl, rfl, fun z => h (decide_eq_true z.1)⟩
      · rintro _ H1 ⟨rfl, eH, n1⟩
        have eH := eH.symm
        subst eH
        refine ⟨fun σ H' => σ = [some (.int w), some (.ref p)] ∧ H' = H ∧ ¬ ((7 < w) ∧ wBook ∈ bs), ?_, ?_⟩
        · refine ⟨_, rfl, _, _, rfl, rfl, _, rfl, ite2 (fun h => ?_) (fun h => ?_)⟩
          · have h : 7 < w := of_decide_eq_true h
            refine ⟨_, rfl, wBook, p, bs, rfl, rfl, sq, _, rfl, ite2 (fun m => ?_) (fun m => ?_)⟩
            · have m : wBook ∈ bs := of_decide_eq_true m
              rw [if_neg n0, if_neg n1, if_pos ⟨h, m⟩] at q
              exact q
            · exact ⟨rfl, rfl, fun z => m (decide_eq_true z.2)⟩
          · exact ⟨rfl, rfl, fun z => h (decide_eq_true z.1)⟩
        · rintro _ H1 ⟨rfl, eH, n2⟩
          have eH := eH.symm
          subst eH
          refine ⟨fun σ H' => σ = [some (.int w), some (.ref p)] ∧ H' = H ∧ ¬ ((7 < w) ∧ wLight ∈ bs), ?_, ?_⟩
          · refine ⟨_, rfl, _, _, rfl, rfl, _, rfl, ite2 (fun h => ?_) (fun h => ?_)⟩
            · have h : 7 < w := of_decide_eq_true h
              refine ⟨_, rfl, wLight, p, bs, rfl, rfl, sq, _, rfl, ite2 (fun m => ?_) (fun m => ?_)⟩
              · have m : wLight ∈ bs := of_decide_eq_true m
                rw [if_neg n0, if_neg n1, if_neg n2, if_pos ⟨h, m⟩] at q
                exact q
              · exact ⟨rfl, rfl, fun z => m (decide_eq_true z.2)⟩
            · exact ⟨rfl, rfl, fun z => h (decide_eq_true z.1)⟩
          · rintro _ H1 ⟨rfl, eH, n3⟩
            have eH := eH.symm
            subst eH
            refine ⟨fun σ H' => σ = [some (.int w), some (.ref p)] ∧ H' = H ∧ ¬ ((7 < w ∧ w < 11) ∧ wSight ∈ bs), ?_, ?_⟩
            · refine ⟨_, rfl, _, _, rfl, rfl, _, rfl, ite2 (fun h1 => ?_) (fun h => ?_)⟩
              · have h1 : 7 < w := of_decide_eq_true h1
                refine ⟨_, _, rfl, rfl, _, rfl, ite2 (fun h2 => ?_) (fun h => ?_)⟩
                · have h : 7 < w ∧ w < 11 := ⟨h1, of_decide_eq_true h2⟩
                  refine ⟨_, rfl, wSight, p, bs, rfl, rfl, sq, _, rfl, ite2 (fun m => ?_) (fun m => ?_)⟩
                  · have m : wSight ∈ bs := of_decide_eq_true m
                    rw [if_neg n0, if_neg n1, if_neg n2, if_neg n3, if_pos ⟨h, m⟩] at q
                    exact q
                  · exact ⟨rfl, rfl, fun z => m (decide_eq_true z.2)⟩
                · exact ⟨rfl, rfl, fun z => h (decide_eq_true z.1.2)⟩
              · exact ⟨_, rfl, ⟨rfl, rfl, fun z => h (decide_eq_true z.1.1)⟩⟩
            · rintro _ H1 ⟨rfl, eH, n4⟩
              have eH := eH.symm
              subst eH
              rw [if_neg n0, if_neg n1, if_neg n2, if_neg n3, if_neg n4] at q
              exact q

end
end Lw
namespace Lw
open PySem PySem.Spec PyProof.Rows L2 TL
local macro_rules | `(tactic| walk_at "rd") => `(tactic| (repeat (first | refine ⟨_, rfl, ?_⟩ | refine ⟨_, _, rfl, rfl, ?_⟩ | refine ⟨rfl, ?_⟩ | refine iteT ?_)))
section
variable {P : Program} {w : World} {K : PySem.W.Frag} {mg : Str → Option Value} {base : Heap}
def flagsL (o l x y z : Bool) : List (List Nat) := tg o wOne ++ tg l wLong ++ tg x uLight ++ tg y uBook ++ tg z uSight
theorem mem_o (o l x y z : Bool) : wOne ∈ flagsL o l x y z ↔ o = true := by cases o <;> cases l <;> cases x <;> cases y <;> cases z <;> decide
theorem mem_l (o l x y z : Bool) : wLong ∈ flagsL o l x y z ↔ l = true := by cases o <;> cases l <;> cases x <;> cases y <;> cases z <;> decide
theorem mem_x (o l x y z : Bool) : wLight ∈ flagsL o l x y z ↔ x = true := by cases o <;> cases l <;> cases x <;> cases y <;> cases z <;> decide
theorem mem_y (o l x y z : Bool) : wBook ∈ flagsL o l x y z ↔ y = true := by cases o <;> cases l <;> cases x <;> cases y <;> cases z <;> decide
theorem mem_z (o l x y z : Bool) : wSight ∈ flagsL o l x y z ↔ z = true := by cases o <;> cases l <;> cases x <;> cases y <;> cases z <;> decide
theorem book_nb {ls : List (List Nat)} (h : Book ls) : ¬ SizeBad ls ∧ ¬ LightBad ls :=
  ⟨fun z => by have := h.1; have := h.2.1; rcases z with z | z <;> omega, fun ⟨l, hl, hn⟩ => hn (h.2.2 l hl)⟩
theorem bads_nil : ¬ BadS [] := fun z => z ⟨by decide, fun c hc => (nomatch hc)⟩
theorem res_due {w : Int} {a : List Nat} {n : Int} {ls : List (List Nat)} {s r : List Nat} {o l x y z : Bool} (h : Res w a n ls s r) (w0 : 0 ≤ w) (w1 : w ≤ 13) (ho : o = true ↔ ¬ Good a) (hl : l = true ↔ ¬ (0 ≤ n ∧ n ≤ 100)) (hy : y = true ↔ SizeBad ls) (hx : y = false → (x = true ↔ LightBad ls))
    (hz1 : z = true → BadS s) (hz2 : z = false → s = []) : (r = wLong ∧ (w = 6 ∨ w = 7) → dueW w (flagsL o l x y z) = wDone) ∧ (¬ (r = wLong ∧ (w = 6 ∨ w = 7)) → dueW w (flagsL o l x y z) = r) := by
  unfold dueW
  simp only [mem_o, mem_l, mem_x, mem_y, mem_z]
  have o0 : Good a → ¬ o = true := fun g e => ho.mp e g
  have l0 : 0 ≤ n ∧ n ≤ 100 → ¬ l = true := fun g e => hl.mp e g
  cases h with
  | light h1 h2 hn =>
    rw [if_pos ⟨by omega, ho.mpr hn⟩]
    exact ⟨fun e => by exact absurd e.1 (by decide), fun _ => rfl⟩
  | far h1 ga hn =>
    rw [if_neg fun e => o0 ga e.2, if_pos ⟨h1, hl.mpr hn⟩]
    exact ⟨fun e => by exact absurd e.1 (by decide), fun _ => rfl⟩
  | two ga h1 =>
    rw [if_neg fun e => o0 ga e.2, if_neg fun e => by omega, if_neg fun e => by omega, if_neg fun e => by omega, if_neg fun e => by omega]
    exact ⟨fun _ => rfl, fun e => absurd ⟨rfl, h1⟩ e⟩
  | few h1 h2 h3 =>
    rw [if_neg fun e => by omega, if_neg fun e => by omega, if_pos ⟨by omega, hy.mpr h3⟩]
    exact ⟨fun e => by omega, fun _ => rfl⟩
  | bad h1 h2 h3 h4 h5 =>
    have y0 : ¬ y = true := fun e => by rcases hy.mp e with z | z <;> omega
    have y1 : y = false := by cases y <;> simp_all
    rw [if_neg fun e => by omega, if_neg fun e => by omega, if_neg fun e => y0 e.2, if_pos ⟨by omega, (hx y1).mpr h5⟩]
    exact ⟨fun e => by omega, fun _ => rfl⟩
  | sight h1 h2 hb hbs =>
    have y0 : ¬ y = true := fun e => (book_nb hb).1 (hy.mp e)
    have y1 : y = false := by cases y <;> simp_all
    have x0 : ¬ x = true := fun e => (book_nb hb).2 ((hx y1).mp e)
    have z1 : z = true := by
      cases z with
      | true => rfl
      | false => rw [hz2 rfl] at hbs; exact absurd hbs bads_nil
    rw [if_neg fun e => by omega, if_neg fun e => by omega, if_neg fun e => y0 e.2, if_neg fun e => x0 e.2, if_pos ⟨⟨by omega, by omega⟩, z1⟩]
    exact ⟨fun e => by omega, fun _ => rfl⟩
  | fine g1 g2 =>
    have c1 : ¬ (w < 8 ∧ o = true) := fun e => o0 (g1 w0 (by omega)).1 e.2
    have c2 : ¬ (w = 0 ∧ l = true) := fun e => l0 ((g1 w0 (by omega)).2 e.1) e.2
    have c3 : ¬ (7 < w ∧ y = true) := fun e => (book_nb (g2 (by omega) w1).1).1 (hy.mp e.2)
    have c4 : ¬ (7 < w ∧ x = true) := fun e => by
      have hb := (g2 (by omega) w1).1
      have y0 : ¬ y = true := fun e => (book_nb hb).1 (hy.mp e)
      have y1 : y = false := by cases y <;> simp_all
      exact (book_nb hb).2 ((hx y1).mp e.2)
    have c5 : ¬ ((7 < w ∧ w < 11) ∧ z = true) := fun e => by
      have hs := (g2 (by omega) w1).2 (by omega)
      have := hz1 e.2
      rw [hs] at this
      exact bads_nil this
    rw [if_neg c1, if_neg c2, if_neg c3, if_neg c4, if_neg c5]
    exact ⟨fun _ => rfl, fun _ => rfl⟩
def sp_law (K : PySem.W.Frag) : Sp := fun vs H Q _ => ∃ (a : Addr) (ns : List Int), vs = [.ref a] ∧ SqL K H a (ns.map V.int) ∧ ns.length ≤ 63 ∧ ∀ H', Q (.bl true) H'
theorem ok_law (T : Txt K mg) : FnOk P w K mg base CX0 9 T.a_law T.d_law ["script"] (sp_law K) := by
  refine T.f_law.ok sc_law (fun vs H Q E h => ?_) (fun cdv A outer s H vs Q E hr h => ?_)
  · obtain ⟨a, ns, rfl, _⟩ := h
    rfl
  · obtain ⟨a, ns, rfl, hs, _, q⟩ := h
    refine ⟨_, (pss_cons (ps_set (i := 1) sc_law.nd rfl (by first | exact Or.inl rfl | exact Or.inr rfl) (pe_call (ok__law_light_by T) (hr.mono (by decide)) (by rfl) T.g__law_light_by T.f__law_light_by.kp T.b__law_light_by .nil pass0 (pa_cons (pe_call (ok__law_cell_at T) (hr.mono (by decide)) (by rfl) T.g__law_cell_at T.f__law_cell_at.kp T.b__law_cell_at .nil pass0 (pa_cons (pv 0) (pa_cons pe_int pa_nil))) (pa_cons (pe_call (ok__law_cell_at T) (hr.mono (by decide)) (by rfl) T.g__law_cell_at T.f__law_cell_at.kp T.b__law_cell_at .nil pass0 (pa_cons (pv 0) (pa_cons pe_int pa_nil))) pa_nil))))
      (pss_cons (ps_set (i := 2) sc_law.nd rfl (by first | exact Or.inl rfl | exact Or.inr rfl) (pe_call (ok__law_light_by T) (hr.mono (by decide)) (by rfl) T.g__law_light_by T.f__law_light_by.kp T.b__law_light_by .nil pass0 (pa_cons (pe_call (ok__law_cell_at T) (hr.mono (by decide)) (by rfl) T.g__law_cell_at T.f__law_cell_at.kp T.b__law_cell_at .nil pass0 (pa_cons (pv 0) (pa_cons pe_int pa_nil))) (pa_cons (pe_call (ok__law_cell_at T) (hr.mono (by decide)) (by rfl) T.g__law_cell_at T.f__law_cell_at.kp T.b__law_cell_at .nil pass0 (pa_cons (pv 0) (pa_cons pe_int pa_nil))) pa_nil))))
      (pss_cons (ps_set (i := 3) sc_law.nd rfl (by first | exact Or.inl rfl | exact Or.inr rfl) (pe_op op_mod (pe_call (ok__law_cell_at T) (hr.mono (by decide)) (by rfl) T.g__law_cell_at T.f__law_cell_at.kp T.b__law_cell_at .nil pass0 (pa_cons (pv 0) (pa_cons pe_int pa_nil))) pe_int))
      (pss_cons (ps_set (i := 4) sc_law.nd rfl (by first | exact Or.inl rfl | exact Or.inr rfl) (pe_op op_mod (pe_call (ok__law_cell_at T) (hr.mono (by decide)) (by rfl) T.g__law_cell_at T.f__law_cell_at.kp T.b__law_cell_at .nil pass0 (pa_cons (pv 0) (pa_cons pe_int pa_nil))) (pe_op op_pow pe_int pe_int)))
      (pss_cons (ps_set (i := 5) sc_law.nd rfl (by first | exact Or.inl rfl | exact Or.inr rfl) (pe_lst pa_nil))
      (Evl.pss_cut (ps_if (pt_cmpR op_eqI (pe_op op_mod (pe_call (ok__law_cell_at T) (hr.mono (by decide)) (by rfl) T.g__law_cell_at T.f__law_cell_at.kp T.b__law_cell_at .nil pass0 (pa_cons (pv 0) (pa_cons pe_int pa_nil))) pe_int) pe_int (nomark _)) (pss_cons (ps_set (i := 1) sc_law.nd rfl (by first | exact Or.inl rfl | exact Or.inr rfl) (pe_call (ok__law_bad_light T) (hr.mono (by decide)) (by rfl) T.g__law_bad_light T.f__law_bad_light.kp T.b__law_bad_light .nil pass0 (pa_cons (pv 1) (pa_cons (pe_op op_mod (pe_call (ok__law_cell_at T) (hr.mono (by decide)) (by rfl) T.g__law_cell_at T.f__law_cell_at.kp T.b__law_cell_at .nil pass0 (pa_cons (pv 0) (pa_cons pe_int pa_nil))) (pe_op op_pow pe_int pe_int)) pa_nil))))
      (pss_one (ps_expr (pe_bm PySem.F.plainAttrs_list PySem.F.slot_list_append PySem.F.type_list_append mt_append (pv 5) (pa_cons (pe_S (l := [111, 110, 101]) (by decide +kernel)) pa_nil))))) pss_nil)
      (Evl.pss_cut (ps_if (pt_cmpR op_eqI (pe_op op_mod (pe_call (ok__law_cell_at T) (hr.mono (by decide)) (by rfl) T.g__law_cell_at T.f__law_cell_at.kp T.b__law_cell_at .nil pass0 (pa_cons (pv 0) (pa_cons pe_int pa_nil))) pe_int) pe_int (nomark _)) (pss_cons (ps_set (i := 3) sc_law.nd rfl (by first | exact Or.inl rfl | exact Or.inr rfl) (pe_ix ix_list (pe_lst (pa_cons (pe_un un_neg pe_int) (pa_cons pe_int (pa_cons (pe_op op_sub (pe_un un_neg pe_int) (pv 4)) (pa_cons (pe_op op_add pe_int (pv 4)) pa_nil))))) (pe_op op_mod (pe_op op_fdiv (pe_call (ok__law_cell_at T) (hr.mono (by decide)) (by rfl) T.g__law_cell_at T.f__law_cell_at.kp T.b__law_cell_at .nil pass0 (pa_cons (pv 0) (pa_cons pe_int pa_nil))) pe_int) pe_int) (fun _ _ => rfl)))
      (pss_one (ps_expr (pe_bm PySem.F.plainAttrs_list PySem.F.slot_list_append PySem.F.type_list_append mt_append (pv 5) (pa_cons (pe_S (l := [108, 111, 110, 103]) (by decide +kernel)) pa_nil))))) pss_nil)
      (pss_cons (ps_asg (pe_call (ok__law_spoilt T) (hr.mono (by decide)) (by rfl) T.g__law_spoilt T.f__law_spoilt.kp T.b__law_spoilt .nil pass0 (pa_cons (pv 0) (pa_cons (pe_call (ok__law_book_by T) (hr.mono (by decide)) (by rfl) T.g__law_book_by T.f__law_book_by.kp T.b__law_book_by .nil pass0 (pa_cons (pv 0) pa_nil)) (pa_cons (pv 5) pa_nil)))) (pg_tup rfl (pgs_cons (pg_name (i := 6) sc_law.nd rfl (by first | exact Or.inl rfl | exact Or.inr rfl)) (pgs_cons (pg_name (i := 7) sc_law.nd rfl (by first | exact Or.inl rfl | exact Or.inr rfl)) pgs_nil))))
      (pss_cons (ps_for PassesOwn.never rfl (pi_range1 (by rfl) T.n_range (pa_cons pe_int pa_nil)) (pg_name (i := 8) sc_law.nd rfl (by first | exact Or.inl rfl | exact Or.inr rfl))
      (pss_cons (ps_set (i := 9) sc_law.nd rfl (by first | exact Or.inl rfl | exact Or.inr rfl) (pe_call (ok__law_tried T) (hr.mono (by decide)) (by rfl) T.g__law_tried T.f__law_tried.kp T.b__law_tried .nil pass0 (pa_cons (pv 8) (pa_cons (pv 1) (pa_cons (pv 2) (pa_cons (pv 3) (pa_cons (pe_callTy call_list_of (by rfl) T.n_list (by decide +kernel) (pa_cons (pv 6) pa_nil)) (pa_cons (pv 7) pa_nil))))))))
      (Evl.pss_cut (ps_if (PW.pt (pw_and (pt_cmpR op_eqS (pv 9) (pe_S (l := [108, 111, 110, 103]) (by decide +kernel)) (nomark _)) (pw_and1 (PW.pt (pw_or (pt_cmpR op_eqI (pv 8) pe_int (nomark _)) (pw_or1 (pt_cmpR op_eqI (pv 8) pe_int (nomark _)))))))) (pss_one (ps_set (i := 9) sc_law.nd rfl (by first | exact Or.inl rfl | exact Or.inr rfl) (pe_S (l := [100, 111, 110, 101]) (by decide +kernel)))) pss_nil)
      (pss_one (ps_if (pt_cmpR op_neS (pv 9) (pe_call (ok__law_due T) (hr.mono (by decide)) (by rfl) T.g__law_due T.f__law_due.kp T.b__law_due .nil pass0 (pa_cons (pv 8) (pa_cons (pv 5) pa_nil))) (nomark _)) (pss_one (ps_ret pe_bl)) pss_nil)))))
      (pss_one (ps_ret pe_bl))))))))))), ?_⟩
    refine ⟨_, rfl, a, ns, _, rfl, hs, by decide, fun v0 H1 s1 => ⟨_, rfl, a, ns, _, rfl, s1.seq hs, by decide, fun v1 H2 s2 => ⟨_, _, rfl, fun o1 H3 g1 s3 => ?_⟩⟩⟩
    have s03 := (s1.trans s2).trans s3
    refine ⟨_, rfl, a, ns, _, rfl, s03.seq hs, by decide, fun v2 H4 s4 => ⟨_, rfl, a, ns, _, rfl, (s03.trans s4).seq hs, by decide, fun v3 H5 s5 => ⟨_, _, rfl, fun o2 H6 g2 s6 => ?_⟩⟩⟩
    have s06 := ((s03.trans s4).trans s5).trans s6
    refine ⟨_, rfl, a, ns, _, rfl, s06.seq hs, by decide, fun v4 H7 s7 => ⟨_, _, rfl, rfl, (by show (0 : Int) < 101; decide), ?_⟩⟩
    refine ⟨_, rfl, a, ns, _, rfl, (s06.trans s7).seq hs, by decide, fun v5 H8 s8 => ⟨_, _, rfl, rfl, ⟨by decide, by decide, by decide⟩, _, _, rfl, rfl, (by show (0 : Int) < 10 ^ (20 : Int).toNat; decide +kernel), ?_⟩⟩
    have hs8 := ((s06.trans s7).trans s8).seq hs
    have f0 : 0 ≤ v5 % 10 ^ (20 : Int).toNat := Int.emod_nonneg _ (by decide +kernel)
    have n0 : 0 ≤ v4 % 101 := Int.emod_nonneg _ (by decide)
    have n1 : v4 % 101 < 101 := Int.emod_lt_of_pos _ (by decide)
    refine ⟨line_of (by show 0 ≤ 100000; decide), fun p hp0 => ?_⟩
    have sp := same_upd (o := .lst []) hp0
    -- one spoilt
    refine ⟨fun σ H' => ∃ u o y6 y7 y8 y9, σ = [some (.ref a), some (.str (S u)), some (.str (S o2)), some (.int (v4 % 101)), some (.int (v5 % 10 ^ (20 : Int).toNat)), some (.ref p), y6, y7, y8, y9] ∧ u.length ≤ 1000 ∧ (o = true ↔ ¬ Good u) ∧ H' p = some (.lst (tx (tg o wOne))) ∧ Same H8 H', ?_, ?_⟩
    · refine ⟨_, rfl, a, ns, _, rfl, sp.seq hs8, by decide, fun v6 H9 s9 => ⟨_, _, rfl, rfl, (by show (0 : Int) < 4; decide), _, _, rfl, rfl, _, rfl, ite2 (fun h => ?_) (fun h => ?_)⟩⟩
      · refine ⟨_, rfl, _, rfl, a, ns, _, rfl, (sp.trans s9).seq hs8, by decide, fun v7 H10 s10 => ⟨_, _, rfl, rfl, ⟨by decide, by decide, by decide⟩, _, _, rfl, rfl, (by show (0 : Int) < 10 ^ (6 : Int).toNat; decide), ?_⟩⟩
        refine ⟨o1, _, rfl, g1, Int.emod_nonneg _ (by decide), fun u H11 hu hug s11 => ?_⟩
        have hp11 := (s9.trans (s10.trans s11)) _ _ (upd_same (H := H8) (a := p) (o := HO.lst []))
        refine ⟨_, rfl, .inl ⟨rfl, _, SqL.of hp11⟩, p, _, _, rfl, rfl, hp11, line_lt (by decide), u, true, _, _, _, _, rfl, hu, ⟨fun _ => hug, fun _ => rfl⟩, upd_same, Same_mut (sp.trans (s9.trans (s10.trans s11))) hp0⟩
      · exact ⟨o1, false, _, _, _, _, rfl, by have := g1.2.1; omega, ⟨fun z => (by cases z), fun z => absurd g1 z⟩, s9 _ _ upd_same, sp.trans s9⟩
    · rintro σ H9 ⟨u, o, y6, y7, y8, y9, rfl, hu, ho, hp, s9⟩
      -- the number spoilt
      refine ⟨fun σ H' => ∃ n l y6 y7 y8 y9, σ = [some (.ref a), some (.str (S u)), some (.str (S o2)), some (.int n), some (.int (v5 % 10 ^ (20 : Int).toNat)), some (.ref p), y6, y7, y8, y9] ∧ (l = true ↔ ¬ (0 ≤ n ∧ n ≤ 100)) ∧ H' p = some (.lst (tx (tg o wOne ++ tg l wLong))) ∧ Same H8 H', ?_, ?_⟩
      · refine ⟨_, rfl, a, ns, _, rfl, s9.seq hs8, by decide, fun v6 H10 s10 => ⟨_, _, rfl, rfl, (by show (0 : Int) < 4; decide), _, _, rfl, rfl, _, rfl, ite2 (fun h => ?_) (fun h => ?_)⟩⟩
        · refine ⟨_, rfl, _, rfl, _, rfl, _, _, rfl, rfl, _, rfl, _, _, rfl, rfl, line_of (by show 4 ≤ 100000; decide), fun d hd => ?_⟩
          have s11 := same_upd (o := .lst [V.int (-1), V.int 101, V.int (-1 - v5 % 10 ^ (20 : Int).toNat), V.int (101 + v5 % 10 ^ (20 : Int).toNat)]) hd
          refine ⟨_, rfl, a, ns, _, rfl, (s9.trans (s10.trans s11)).seq hs8, by decide, fun v7 H12 s12 => ⟨_, _, rfl, rfl, ⟨by decide, by decide⟩, _, _, rfl, rfl, (by show (0 : Int) < 4; decide), ?_⟩⟩
          have k1 : 0 ≤ v7 / 4 % 4 := Int.emod_nonneg _ (by decide)
          have k2 : v7 / 4 % 4 < 4 := Int.emod_lt_of_pos _ (by decide)
          have hall : ∀ j : Nat, j < 4 → ∃ m : Int, [V.int (-1), V.int 101, V.int (-1 - v5 % 10 ^ (20 : Int).toNat), V.int (101 + v5 % 10 ^ (20 : Int).toNat)][j]? = some (.int m) ∧ ¬ (0 ≤ m ∧ m ≤ 100) := by
            intro j hj
            match j, hj with
            | 0, _ => exact ⟨_, rfl, by omega⟩
            | 1, _ => exact ⟨_, rfl, by omega⟩
            | 2, _ => exact ⟨_, rfl, by omega⟩
            | 3, _ => exact ⟨_, rfl, by omega⟩
          obtain ⟨m, hm, hmb⟩ := hall (v7 / 4 % 4).toNat (by omega)
          have hp12 := (s10.trans (s11.trans s12)) _ _ hp
          refine ⟨d, _, _, .int m, rfl, rfl, SqL.of (s12 _ _ upd_same), atN (j := (v7 / 4 % 4).toNat) (by omega) hm, ?_⟩
          refine ⟨_, rfl, .inl ⟨rfl, _, SqL.of hp12⟩, p, _, _, rfl, rfl, hp12, line_lt (by rw [List.length_map]; have := tg_len o wOne; omega), m, true, _, _, _, _, rfl, ⟨fun _ => hmb, fun _ => rfl⟩, ?_, Same_mut (s9.trans (s10.trans (s11.trans s12))) hp0⟩
          rw [upd_same]
          unfold tx
          rw [List.map_append (l₁ := tg o wOne)]
          rfl
        · refine ⟨v4 % 101, false, _, _, _, _, rfl, ⟨fun z => (by cases z), fun z => by omega⟩, ?_, s9.trans s10⟩
          rw [show tg false wLong = [] from rfl, List.append_nil]
          exact s10 _ _ hp
      · clear hp s9
        rintro σ H10 ⟨n, l, y6, y7, y8, y9, rfl, hl, hp, s9⟩
        refine ⟨_, rfl, _, rfl, a, ns, rfl, s9.seq hs8, fun ls0 H11 b hb s11 hb0 hbk => ⟨_, rfl, ?_⟩⟩
        have hne : b ≠ p := fun z => by rw [z, hp] at hb0; cases hb0
        refine ⟨a, ns, b, p, ls0, tg o wOne ++ tg l wLong, H8, rfl, hs8, hp0, s9.trans s11, hbk, hb, hne, s11 _ _ hp, by have := tg_len o wOne; have := tg_len l wLong; rw [List.length_append]; omega, ?_⟩
        intro t qb ls s' x y z H12 hy hx hz1 hz2 m1 m2 m3 ht hq hnq hpf
        refine ⟨t, _, rfl, SqT.of ht, rfl, _, _, rfl, _, _, rfl, rfl, ?_⟩
        have hbad : s' = [] ∨ BadS s' := by
          cases z with
          | true => exact .inr (hz1 rfl)
          | false => exact .inl (hz2 rfl)
        have hpf : H12 p = some (.lst (tx (flagsL o l x y z))) := hpf
        refine ⟨_, rfl, by decide, by decide, ?_⟩
        refine for_it walkR (fun i σ H' => ∃ y8 y9, σ = [some (.ref a), some (.str (S u)), some (.str (S o2)), some (.int n), some (.int (v5 % 10 ^ (20 : Int).toNat)), some (.ref p), some (.ref qb), some (.str (S s')), y8, y9] ∧ Same H12 H') ⟨_, _, rfl, Same.refl _⟩ (fun _ _ _ _ _ => trivial) (fun i v σ H13 H14 hi hq' hv => ?_) (fun σ H13 hq' => ?_)
        · obtain ⟨y8, y9, rfl, s13⟩ := hq'
          obtain ⟨rfl, rfl⟩ := hv
          have hi : i < 14 := hi
          refine ⟨_, rfl, _, rfl, _, rfl, _, rfl, _, rfl, qb, _, rfl, .inl (SqL.of (s13 _ _ hq)), fun c hc => ?_⟩
          have s14 := same_upd (o := .lst (tx ls)) hc
          refine ⟨_, rfl, (i : Int), u, o2, n, c, ls, s', rfl, hu, g2, SqL.of upd_same, m1, m2, m3, hbad, fun r H15 hres s15 => ?_⟩
          have s1315 := s13.trans (s14.trans s15)
          obtain ⟨d1, d2⟩ := res_due hres (by omega) (by omega) ho hl hy hx hz1 hz2
          refine ⟨fun σ H' => σ = [some (.ref a), some (.str (S u)), some (.str (S o2)), some (.int n), some (.int (v5 % 10 ^ (20 : Int).toNat)), some (.ref p), some (.ref qb), some (.str (S s')), some (.int (i : Nat)), some (.str (S (dueW i (flagsL o l x y z))))] ∧ Same H12 H', ?_, ?_⟩
          · refine ⟨_, rfl, _, _, rfl, rfl, _, rfl, ite2 (fun h => ?_) (fun h => ?_)⟩
            · have h : r = wLong := of_decide_eq_true h
              refine ⟨_, rfl, _, _, rfl, rfl, _, rfl, ite2 (fun h6 => ?_) (fun h6 => ?_)⟩
              · have h6 : (i : Int) = 6 := of_decide_eq_true h6
                rw [d1 ⟨h, .inl h6⟩]
                exact ⟨rfl, s1315⟩
              · refine ⟨_, rfl, _, _, rfl, rfl, _, rfl, ite2 (fun h7 => ?_) (fun h7 => ?_)⟩
                · have h7 : (i : Int) = 7 := of_decide_eq_true h7
                  rw [d1 ⟨h, .inr h7⟩]
                  exact ⟨rfl, s1315⟩
                · rw [d2 fun e => e.2.elim (fun e => h6 (decide_eq_true e)) fun e => h7 (decide_eq_true e)]
                  exact ⟨rfl, s1315⟩
            · rw [d2 fun e => h (decide_eq_true e.1)]
              exact ⟨rfl, s1315⟩
          · rintro σ H16 ⟨rfl, s16⟩
            refine ⟨_, rfl, _, rfl, _, rfl, (i : Int), p, flagsL o l x y z, rfl, SqL.of (s16 _ _ hpf), fun H17 s17 => ⟨_, _, rfl, rfl, _, rfl, ?_⟩⟩
            rw [decide_eq_true rfl]
            exact ⟨_, _, rfl, s16.trans s17⟩
        · exact q _

end
end Lw
namespace Lw
open PySem PySem.Spec PyProof.Rows L2 TL
local macro_rules | `(tactic| walk_at "rd") => `(tactic| (repeat (first | refine ⟨_, rfl, ?_⟩ | refine ⟨_, _, rfl, rfl, ?_⟩ | refine ⟨rfl, ?_⟩ | refine iteT ?_)))
theorem all_mk {l : PySem.W.OpenLaw} {w : World} {K : PySem.W.Frag} {h : Heap} {mg : Str → Option Value} {fa : Addr} (X : K.In h) (G : h.Ns mainGlobals mg) (hfa : mg "law" = some (.ref fa))
    {f0 : Addr} {od0 an0 : Option Addr} {sl0 : Array (Option Value)} {oc0 kV0 dc0 pm0 cd0 ct0 : Value}
    {f1 : Addr} {od1 an1 : Option Addr} {sl1 : Array (Option Value)} {oc1 kV1 dc1 pm1 cd1 ct1 : Value}
    {f2 : Addr} {od2 an2 : Option Addr} {sl2 : Array (Option Value)} {oc2 kV2 dc2 pm2 cd2 ct2 : Value}
    {f3 : Addr} {od3 an3 : Option Addr} {sl3 : Array (Option Value)} {oc3 kV3 dc3 pm3 cd3 ct3 : Value}
    {f4 : Addr} {od4 an4 : Option Addr} {sl4 : Array (Option Value)} {oc4 kV4 dc4 pm4 cd4 ct4 : Value}
    {f5 : Addr} {od5 an5 : Option Addr} {sl5 : Array (Option Value)} {oc5 kV5 dc5 pm5 cd5 ct5 : Value}
    {f6 : Addr} {od6 an6 : Option Addr} {sl6 : Array (Option Value)} {oc6 kV6 dc6 pm6 cd6 ct6 : Value}
    {f7 : Addr} {od7 an7 : Option Addr} {sl7 : Array (Option Value)} {oc7 kV7 dc7 pm7 cd7 ct7 : Value}
    {f8 : Addr} {od8 an8 : Option Addr} {sl8 : Array (Option Value)} {oc8 kV8 dc8 pm8 cd8 ct8 : Value}
    {f9 : Addr} {od9 an9 : Option Addr} {sl9 : Array (Option Value)} {oc9 kV9 dc9 pm9 cd9 ct9 : Value}
    {f10 : Addr} {od10 an10 : Option Addr} {sl10 : Array (Option Value)} {oc10 kV10 dc10 pm10 cd10 ct10 : Value}
    {f11 : Addr} {od11 an11 : Option Addr} {sl11 : Array (Option Value)} {oc11 kV11 dc11 pm11 cd11 ct11 : Value}
    {f12 : Addr} {od12 an12 : Option Addr} {sl12 : Array (Option Value)} {oc12 kV12 dc12 pm12 cd12 ct12 : Value}
    {f13 : Addr} {od13 an13 : Option Addr} {sl13 : Array (Option Value)} {oc13 kV13 dc13 pm13 cd13 ct13 : Value}
    {f14 : Addr} {od14 an14 : Option Addr} {sl14 : Array (Option Value)} {oc14 kV14 dc14 pm14 cd14 ct14 : Value}
    {f15 : Addr} {od15 an15 : Option Addr} {sl15 : Array (Option Value)} {oc15 kV15 dc15 pm15 cd15 ct15 : Value}
    {f16 : Addr} {od16 an16 : Option Addr} {sl16 : Array (Option Value)} {oc16 kV16 dc16 pm16 cd16 ct16 : Value}
    {f17 : Addr} {od17 an17 : Option Addr} {sl17 : Array (Option Value)} {oc17 kV17 dc17 pm17 cd17 ct17 : Value}
    {f18 : Addr} {od18 an18 : Option Addr} {sl18 : Array (Option Value)} {oc18 kV18 dc18 pm18 cd18 ct18 : Value}
    {f19 : Addr} {od19 an19 : Option Addr} {sl19 : Array (Option Value)} {oc19 kV19 dc19 pm19 cd19 ct19 : Value}
    {f20 : Addr} {od20 an20 : Option Addr} {sl20 : Array (Option Value)} {oc20 kV20 dc20 pm20 cd20 ct20 : Value}
    {f21 : Addr} {od21 an21 : Option Addr} {sl21 : Array (Option Value)} {oc21 kV21 dc21 pm21 cd21 ct21 : Value}
    {f22 : Addr} {od22 an22 : Option Addr} {sl22 : Array (Option Value)} {oc22 kV22 dc22 pm22 cd22 ct22 : Value}
    {f23 : Addr} {od23 an23 : Option Addr} {sl23 : Array (Option Value)} {oc23 kV23 dc23 pm23 cd23 ct23 : Value}
    {f24 : Addr} {od24 an24 : Option Addr} {sl24 : Array (Option Value)} {oc24 kV24 dc24 pm24 cd24 ct24 : Value}
    {f25 : Addr} {od25 an25 : Option Addr} {sl25 : Array (Option Value)} {oc25 kV25 dc25 pm25 cd25 ct25 : Value}
    {f26 : Addr} {od26 an26 : Option Addr} {sl26 : Array (Option Value)} {oc26 kV26 dc26 pm26 cd26 ct26 : Value}
    {f27 : Addr} {od27 an27 : Option Addr} {sl27 : Array (Option Value)} {oc27 kV27 dc27 pm27 cd27 ct27 : Value}
    {f28 : Addr} {od28 an28 : Option Addr} {sl28 : Array (Option Value)} {oc28 kV28 dc28 pm28 cd28 ct28 : Value}
    {f29 : Addr} {od29 an29 : Option Addr} {sl29 : Array (Option Value)} {oc29 kV29 dc29 pm29 cd29 ct29 : Value}
    {tMOST : Tok}
    {tMOST_SEEN : Tok}
    {tMOST_LIGHTS : Tok}
    {CLampError : Addr}
    {CNoLight : Addr}
    {CNoBook : Addr}
    {CNoSight : Addr}
    {CNoFit : Addr}
    {CTooLong : Addr}
    {CNoNote : Addr}
    (a0 : PySem.W.nsIn K mainGlobals "is_light" = some (some (.ref f0))) (l0 : K.lookup f0 = some ⟨oc0, od0, .func (PySem.W.fnOf "is_light" "is_light" (defArgs s_is_light) (defBody s_is_light) (defScope s_is_light) .none kV0 dc0 pm0 an0 cd0 ct0), sl0⟩) (c0 : PySem.W.codeIn K cd0 "is_light" = true) (k0 : PySem.W.keepIn K (.ref f0) = true)
    (a1 : PySem.W.nsIn K mainGlobals "asked_light" = some (some (.ref f1))) (l1 : K.lookup f1 = some ⟨oc1, od1, .func (PySem.W.fnOf "asked_light" "asked_light" (defArgs s_asked_light) (defBody s_asked_light) (defScope s_asked_light) .none kV1 dc1 pm1 an1 cd1 ct1), sl1⟩) (c1 : PySem.W.codeIn K cd1 "asked_light" = true) (k1 : PySem.W.keepIn K (.ref f1) = true)
    (a2 : PySem.W.nsIn K mainGlobals "showing" = some (some (.ref f2))) (l2 : K.lookup f2 = some ⟨oc2, od2, .func (PySem.W.fnOf "showing" "showing" (defArgs s_showing) (defBody s_showing) (defScope s_showing) .none kV2 dc2 pm2 an2 cd2 ct2), sl2⟩) (c2 : PySem.W.codeIn K cd2 "showing" = true) (k2 : PySem.W.keepIn K (.ref f2) = true)
    (a3 : PySem.W.nsIn K mainGlobals "seen" = some (some (.ref f3))) (l3 : K.lookup f3 = some ⟨oc3, od3, .func (PySem.W.fnOf "seen" "seen" (defArgs s_seen) (defBody s_seen) (defScope s_seen) .none kV3 dc3 pm3 an3 cd3 ct3), sl3⟩) (c3 : PySem.W.codeIn K cd3 "seen" = true) (k3 : PySem.W.keepIn K (.ref f3) = true)
    (a4 : PySem.W.nsIn K mainGlobals "shortest_of" = some (some (.ref f4))) (l4 : K.lookup f4 = some ⟨oc4, od4, .func (PySem.W.fnOf "shortest_of" "shortest_of" (defArgs s_shortest_of) (defBody s_shortest_of) (defScope s_shortest_of) .none kV4 dc4 pm4 an4 cd4 ct4), sl4⟩) (c4 : PySem.W.codeIn K cd4 "shortest_of" = true) (k4 : PySem.W.keepIn K (.ref f4) = true)
    (a5 : PySem.W.nsIn K mainGlobals "shortest" = some (some (.ref f5))) (l5 : K.lookup f5 = some ⟨oc5, od5, .func (PySem.W.fnOf "shortest" "shortest" (defArgs s_shortest) (defBody s_shortest) (defScope s_shortest) .none kV5 dc5 pm5 an5 cd5 ct5), sl5⟩) (c5 : PySem.W.codeIn K cd5 "shortest" = true) (k5 : PySem.W.keepIn K (.ref f5) = true)
    (a6 : PySem.W.nsIn K mainGlobals "turn" = some (some (.ref f6))) (l6 : K.lookup f6 = some ⟨oc6, od6, .func (PySem.W.fnOf "turn" "turn" (defArgs s_turn) (defBody s_turn) (defScope s_turn) .none kV6 dc6 pm6 an6 cd6 ct6), sl6⟩) (c6 : PySem.W.codeIn K cd6 "turn" = true) (k6 : PySem.W.keepIn K (.ref f6) = true)
    (a7 : PySem.W.nsIn K mainGlobals "parting" = some (some (.ref f7))) (l7 : K.lookup f7 = some ⟨oc7, od7, .func (PySem.W.fnOf "parting" "parting" (defArgs s_parting) (defBody s_parting) (defScope s_parting) .none kV7 dc7 pm7 an7 cd7 ct7), sl7⟩) (c7 : PySem.W.codeIn K cd7 "parting" = true) (k7 : PySem.W.keepIn K (.ref f7) = true)
    (a8 : PySem.W.nsIn K mainGlobals "both" = some (some (.ref f8))) (l8 : K.lookup f8 = some ⟨oc8, od8, .func (PySem.W.fnOf "both" "both" (defArgs s_both) (defBody s_both) (defScope s_both) .none kV8 dc8 pm8 an8 cd8 ct8), sl8⟩) (c8 : PySem.W.codeIn K cd8 "both" = true) (k8 : PySem.W.keepIn K (.ref f8) = true)
    (a9 : PySem.W.nsIn K mainGlobals "asked_book" = some (some (.ref f9))) (l9 : K.lookup f9 = some ⟨oc9, od9, .func (PySem.W.fnOf "asked_book" "asked_book" (defArgs s_asked_book) (defBody s_asked_book) (defScope s_asked_book) .none kV9 dc9 pm9 an9 cd9 ct9), sl9⟩) (c9 : PySem.W.codeIn K cd9 "asked_book" = true) (k9 : PySem.W.keepIn K (.ref f9) = true)
    (a10 : PySem.W.nsIn K mainGlobals "asked_sight" = some (some (.ref f10))) (l10 : K.lookup f10 = some ⟨oc10, od10, .func (PySem.W.fnOf "asked_sight" "asked_sight" (defArgs s_asked_sight) (defBody s_asked_sight) (defScope s_asked_sight) .none kV10 dc10 pm10 an10 cd10 ct10), sl10⟩) (c10 : PySem.W.codeIn K cd10 "asked_sight" = true) (k10 : PySem.W.keepIn K (.ref f10) = true)
    (a11 : PySem.W.nsIn K mainGlobals "spots" = some (some (.ref f11))) (l11 : K.lookup f11 = some ⟨oc11, od11, .func (PySem.W.fnOf "spots" "spots" (defArgs s_spots) (defBody s_spots) (defScope s_spots) .none kV11 dc11 pm11 an11 cd11 ct11), sl11⟩) (c11 : PySem.W.codeIn K cd11 "spots" = true) (k11 : PySem.W.keepIn K (.ref f11) = true)
    (a12 : PySem.W.nsIn K mainGlobals "fitting" = some (some (.ref f12))) (l12 : K.lookup f12 = some ⟨oc12, od12, .func (PySem.W.fnOf "fitting" "fitting" (defArgs s_fitting) (defBody s_fitting) (defScope s_fitting) .none kV12 dc12 pm12 an12 cd12 ct12), sl12⟩) (c12 : PySem.W.codeIn K cd12 "fitting" = true) (k12 : PySem.W.keepIn K (.ref f12) = true)
    (a13 : PySem.W.nsIn K mainGlobals "watch" = some (some (.ref f13))) (l13 : K.lookup f13 = some ⟨oc13, od13, .func (PySem.W.fnOf "watch" "watch" (defArgs s_watch) (defBody s_watch) (defScope s_watch) .none kV13 dc13 pm13 an13 cd13 ct13), sl13⟩) (c13 : PySem.W.codeIn K cd13 "watch" = true) (k13 : PySem.W.keepIn K (.ref f13) = true)
    (a14 : PySem.W.nsIn K mainGlobals "twins" = some (some (.ref f14))) (l14 : K.lookup f14 = some ⟨oc14, od14, .func (PySem.W.fnOf "twins" "twins" (defArgs s_twins) (defBody s_twins) (defScope s_twins) .none kV14 dc14 pm14 an14 cd14 ct14), sl14⟩) (c14 : PySem.W.codeIn K cd14 "twins" = true) (k14 : PySem.W.keepIn K (.ref f14) = true)
    (a15 : PySem.W.nsIn K mainGlobals "fits" = some (some (.ref f15))) (l15 : K.lookup f15 = some ⟨oc15, od15, .func (PySem.W.fnOf "fits" "fits" (defArgs s_fits) (defBody s_fits) (defScope s_fits) .none kV15 dc15 pm15 an15 cd15 ct15), sl15⟩) (c15 : PySem.W.codeIn K cd15 "fits" = true) (k15 : PySem.W.keepIn K (.ref f15) = true)
    (a16 : PySem.W.nsIn K mainGlobals "sure" = some (some (.ref f16))) (l16 : K.lookup f16 = some ⟨oc16, od16, .func (PySem.W.fnOf "sure" "sure" (defArgs s_sure) (defBody s_sure) (defScope s_sure) .none kV16 dc16 pm16 an16 cd16 ct16), sl16⟩) (c16 : PySem.W.codeIn K cd16 "sure" = true) (k16 : PySem.W.keepIn K (.ref f16) = true)
    (a17 : PySem.W.nsIn K mainGlobals "coming" = some (some (.ref f17))) (l17 : K.lookup f17 = some ⟨oc17, od17, .func (PySem.W.fnOf "coming" "coming" (defArgs s_coming) (defBody s_coming) (defScope s_coming) .none kV17 dc17 pm17 an17 cd17 ct17), sl17⟩) (c17 : PySem.W.codeIn K cd17 "coming" = true) (k17 : PySem.W.keepIn K (.ref f17) = true)
    (a18 : PySem.W.nsIn K mainGlobals "shown" = some (some (.ref f18))) (l18 : K.lookup f18 = some ⟨oc18, od18, .func (PySem.W.fnOf "shown" "shown" (defArgs s_shown) (defBody s_shown) (defScope s_shown) .none kV18 dc18 pm18 an18 cd18 ct18), sl18⟩) (c18 : PySem.W.codeIn K cd18 "shown" = true) (k18 : PySem.W.keepIn K (.ref f18) = true)
    (a19 : PySem.W.nsIn K mainGlobals "_law_cell_at" = some (some (.ref f19))) (l19 : K.lookup f19 = some ⟨oc19, od19, .func (PySem.W.fnOf "_law_cell_at" "_law_cell_at" (defArgs s__law_cell_at) (defBody s__law_cell_at) (defScope s__law_cell_at) .none kV19 dc19 pm19 an19 cd19 ct19), sl19⟩) (c19 : PySem.W.codeIn K cd19 "_law_cell_at" = true) (k19 : PySem.W.keepIn K (.ref f19) = true)
    (a20 : PySem.W.nsIn K mainGlobals "_law_word_of" = some (some (.ref f20))) (l20 : K.lookup f20 = some ⟨oc20, od20, .func (PySem.W.fnOf "_law_word_of" "_law_word_of" (defArgs s__law_word_of) (defBody s__law_word_of) (defScope s__law_word_of) .none kV20 dc20 pm20 an20 cd20 ct20), sl20⟩) (c20 : PySem.W.codeIn K cd20 "_law_word_of" = true) (k20 : PySem.W.keepIn K (.ref f20) = true)
    (a21 : PySem.W.nsIn K mainGlobals "_law_light_by" = some (some (.ref f21))) (l21 : K.lookup f21 = some ⟨oc21, od21, .func (PySem.W.fnOf "_law_light_by" "_law_light_by" (defArgs s__law_light_by) (defBody s__law_light_by) (defScope s__law_light_by) .none kV21 dc21 pm21 an21 cd21 ct21), sl21⟩) (c21 : PySem.W.codeIn K cd21 "_law_light_by" = true) (k21 : PySem.W.keepIn K (.ref f21) = true)
    (a22 : PySem.W.nsIn K mainGlobals "_law_book_by" = some (some (.ref f22))) (l22 : K.lookup f22 = some ⟨oc22, od22, .func (PySem.W.fnOf "_law_book_by" "_law_book_by" (defArgs s__law_book_by) (defBody s__law_book_by) (defScope s__law_book_by) .none kV22 dc22 pm22 an22 cd22 ct22), sl22⟩) (c22 : PySem.W.codeIn K cd22 "_law_book_by" = true) (k22 : PySem.W.keepIn K (.ref f22) = true)
    (a23 : PySem.W.nsIn K mainGlobals "_law_of_lights" = some (some (.ref f23))) (l23 : K.lookup f23 = some ⟨oc23, od23, .func (PySem.W.fnOf "_law_of_lights" "_law_of_lights" (defArgs s__law_of_lights) (defBody s__law_of_lights) (defScope s__law_of_lights) .none kV23 dc23 pm23 an23 cd23 ct23), sl23⟩) (c23 : PySem.W.codeIn K cd23 "_law_of_lights" = true) (k23 : PySem.W.keepIn K (.ref f23) = true)
    (a24 : PySem.W.nsIn K mainGlobals "_law_of_books" = some (some (.ref f24))) (l24 : K.lookup f24 = some ⟨oc24, od24, .func (PySem.W.fnOf "_law_of_books" "_law_of_books" (defArgs s__law_of_books) (defBody s__law_of_books) (defScope s__law_of_books) .none kV24 dc24 pm24 an24 cd24 ct24), sl24⟩) (c24 : PySem.W.codeIn K cd24 "_law_of_books" = true) (k24 : PySem.W.keepIn K (.ref f24) = true)
    (a25 : PySem.W.nsIn K mainGlobals "_law_tried" = some (some (.ref f25))) (l25 : K.lookup f25 = some ⟨oc25, od25, .func (PySem.W.fnOf "_law_tried" "_law_tried" (defArgs s__law_tried) (defBody s__law_tried) (defScope s__law_tried) .none kV25 dc25 pm25 an25 cd25 ct25), sl25⟩) (c25 : PySem.W.codeIn K cd25 "_law_tried" = true) (k25 : PySem.W.keepIn K (.ref f25) = true)
    (a26 : PySem.W.nsIn K mainGlobals "_law_bad_light" = some (some (.ref f26))) (l26 : K.lookup f26 = some ⟨oc26, od26, .func (PySem.W.fnOf "_law_bad_light" "_law_bad_light" (defArgs s__law_bad_light) (defBody s__law_bad_light) (defScope s__law_bad_light) .none kV26 dc26 pm26 an26 cd26 ct26), sl26⟩) (c26 : PySem.W.codeIn K cd26 "_law_bad_light" = true) (k26 : PySem.W.keepIn K (.ref f26) = true)
    (a27 : PySem.W.nsIn K mainGlobals "_law_spoilt" = some (some (.ref f27))) (l27 : K.lookup f27 = some ⟨oc27, od27, .func (PySem.W.fnOf "_law_spoilt" "_law_spoilt" (defArgs s__law_spoilt) (defBody s__law_spoilt) (defScope s__law_spoilt) .none kV27 dc27 pm27 an27 cd27 ct27), sl27⟩) (c27 : PySem.W.codeIn K cd27 "_law_spoilt" = true) (k27 : PySem.W.keepIn K (.ref f27) = true)
    (a28 : PySem.W.nsIn K mainGlobals "_law_due" = some (some (.ref f28))) (l28 : K.lookup f28 = some ⟨oc28, od28, .func (PySem.W.fnOf "_law_due" "_law_due" (defArgs s__law_due) (defBody s__law_due) (defScope s__law_due) .none kV28 dc28 pm28 an28 cd28 ct28), sl28⟩) (c28 : PySem.W.codeIn K cd28 "_law_due" = true) (k28 : PySem.W.keepIn K (.ref f28) = true)
    (a29 : PySem.W.nsIn K mainGlobals "law" = some (some (.ref f29))) (l29 : K.lookup f29 = some ⟨oc29, od29, .func (PySem.W.fnOf "law" "law" (defArgs s_law) (defBody s_law) (defScope s_law) .none kV29 dc29 pm29 an29 cd29 ct29), sl29⟩) (c29 : PySem.W.codeIn K cd29 "law" = true) (k29 : PySem.W.keepIn K (.ref f29) = true)
    (mMOST : PySem.W.nsIn K mainGlobals "MOST" = some (some (.int 12 tMOST)))
    (mMOST_SEEN : PySem.W.nsIn K mainGlobals "MOST_SEEN" = some (some (.int 100 tMOST_SEEN)))
    (mMOST_LIGHTS : PySem.W.nsIn K mainGlobals "MOST_LIGHTS" = some (some (.int 5 tMOST_LIGHTS)))
    (zall : PySem.W.nsIn K mainGlobals "all" = some none)
    (zlen : PySem.W.nsIn K mainGlobals "len" = some none)
    (zrange : PySem.W.nsIn K mainGlobals "range" = some none)
    (zenumerate : PySem.W.nsIn K mainGlobals "enumerate" = some none)
    (zmax : PySem.W.nsIn K mainGlobals "max" = some none)
    (zisinstance : PySem.W.nsIn K mainGlobals "isinstance" = some none)
    (zValueError : PySem.W.nsIn K mainGlobals "ValueError" = some none)
    (ze : PySem.W.nsIn K mainGlobals "e" = some none)
    (zlist : PySem.W.nsIn K mainGlobals "list" = some none)
    (aLampError : PySem.W.nsIn K mainGlobals "LampError" = some (some (.ref CLampError)))
    (aNoLight : PySem.W.nsIn K mainGlobals "NoLight" = some (some (.ref CNoLight)))
    (aNoBook : PySem.W.nsIn K mainGlobals "NoBook" = some (some (.ref CNoBook)))
    (aNoSight : PySem.W.nsIn K mainGlobals "NoSight" = some (some (.ref CNoSight)))
    (aNoFit : PySem.W.nsIn K mainGlobals "NoFit" = some (some (.ref CNoFit)))
    (aTooLong : PySem.W.nsIn K mainGlobals "TooLong" = some (some (.ref CTooLong)))
    (aNoNote : PySem.W.nsIn K mainGlobals "NoNote" = some (some (.ref CNoNote)))
    (sbL : PySem.W.subIn K (.ref CLampError) (.type "BaseException") = some true)
    (hdL : PySem.W.hasDictIn K CLampError = true)
    (tyL : PySem.W.typeIn K (.ref CLampError) = some (.type "type"))
    (hn : PySem.W.specialIn K (.builtin "object.__class__") "__get__" = some (some (.builtin "getset_descriptor.__get__")))
    (ht : PySem.W.takesIn K (.builtin "object.__class__") = some true)
    (icNoLight : PySem.W.isClsIn K CNoLight = true)
    (tcNoLight : PySem.W.typeIn K (.ref CNoLight) = some (.type "type"))
    (icNoBook : PySem.W.isClsIn K CNoBook = true)
    (tcNoBook : PySem.W.typeIn K (.ref CNoBook) = some (.type "type"))
    (icNoSight : PySem.W.isClsIn K CNoSight = true)
    (tcNoSight : PySem.W.typeIn K (.ref CNoSight) = some (.type "type"))
    (icNoFit : PySem.W.isClsIn K CNoFit = true)
    (tcNoFit : PySem.W.typeIn K (.ref CNoFit) = some (.type "type"))
    (icTooLong : PySem.W.isClsIn K CTooLong = true)
    (tcTooLong : PySem.W.typeIn K (.ref CTooLong) = some (.type "type"))
    (icNoNote : PySem.W.isClsIn K CNoNote = true)
    (tcNoNote : PySem.W.typeIn K (.ref CNoNote) = some (.type "type"))
    (xNoLight : PySem.W.excIn K CNoLight [.type "ValueError", .type "Exception", .type "BaseException", .type "object"] "ValueError.__new__" = true)
    (kkNoLight : PySem.W.keepIn K (.ref CNoLight) = true)
    (sbNoLight : PySem.W.subIn K (.ref CNoLight) (.type "BaseException") = some true)
    (tyNoLight : PySem.W.typeIn K (.ref CNoLight) = some (.type "type"))
    (slNoLight : PySem.W.subIn K (.ref CNoLight) (.ref CLampError) = some true)
    (gaNoLight : PySem.W.findIn K (.ref CNoLight) "__getattribute__" = some (some (.builtin "BaseException.__getattribute__")))
    (ggNoLight : PySem.W.findIn K (.ref CNoLight) "__getattr__" = some none)
    (hdNoLight : PySem.W.hasDictIn K CNoLight = true)
    (clNoLight : PySem.W.findIn K (.ref CNoLight) "__class__" = some (some (.builtin "object.__class__")))
    (mrNoLight : PySem.W.mroIn K CNoLight (.type "object") = some true)
    (isNoLightNoLight : PySem.W.subIn K (.ref CNoLight) (.ref CNoLight) = some true)
    (isNoLightNoBook : PySem.W.subIn K (.ref CNoLight) (.ref CNoBook) = some false)
    (isNoLightNoSight : PySem.W.subIn K (.ref CNoLight) (.ref CNoSight) = some false)
    (isNoLightNoFit : PySem.W.subIn K (.ref CNoLight) (.ref CNoFit) = some false)
    (isNoLightTooLong : PySem.W.subIn K (.ref CNoLight) (.ref CTooLong) = some false)
    (isNoLightNoNote : PySem.W.subIn K (.ref CNoLight) (.ref CNoNote) = some false)
    (veNoLight : PySem.W.subIn K (.ref CNoLight) (.type "ValueError") = some true)
    (xNoBook : PySem.W.excIn K CNoBook [.type "ValueError", .type "Exception", .type "BaseException", .type "object"] "ValueError.__new__" = true)
    (kkNoBook : PySem.W.keepIn K (.ref CNoBook) = true)
    (sbNoBook : PySem.W.subIn K (.ref CNoBook) (.type "BaseException") = some true)
    (tyNoBook : PySem.W.typeIn K (.ref CNoBook) = some (.type "type"))
    (slNoBook : PySem.W.subIn K (.ref CNoBook) (.ref CLampError) = some true)
    (gaNoBook : PySem.W.findIn K (.ref CNoBook) "__getattribute__" = some (some (.builtin "BaseException.__getattribute__")))
    (ggNoBook : PySem.W.findIn K (.ref CNoBook) "__getattr__" = some none)
    (hdNoBook : PySem.W.hasDictIn K CNoBook = true)
    (clNoBook : PySem.W.findIn K (.ref CNoBook) "__class__" = some (some (.builtin "object.__class__")))
    (mrNoBook : PySem.W.mroIn K CNoBook (.type "object") = some true)
    (isNoBookNoLight : PySem.W.subIn K (.ref CNoBook) (.ref CNoLight) = some false)
    (isNoBookNoBook : PySem.W.subIn K (.ref CNoBook) (.ref CNoBook) = some true)
    (isNoBookNoSight : PySem.W.subIn K (.ref CNoBook) (.ref CNoSight) = some false)
    (isNoBookNoFit : PySem.W.subIn K (.ref CNoBook) (.ref CNoFit) = some false)
    (isNoBookTooLong : PySem.W.subIn K (.ref CNoBook) (.ref CTooLong) = some false)
    (isNoBookNoNote : PySem.W.subIn K (.ref CNoBook) (.ref CNoNote) = some false)
    (veNoBook : PySem.W.subIn K (.ref CNoBook) (.type "ValueError") = some true)
    (xNoSight : PySem.W.excIn K CNoSight [.type "ValueError", .type "Exception", .type "BaseException", .type "object"] "ValueError.__new__" = true)
    (kkNoSight : PySem.W.keepIn K (.ref CNoSight) = true)
    (sbNoSight : PySem.W.subIn K (.ref CNoSight) (.type "BaseException") = some true)
    (tyNoSight : PySem.W.typeIn K (.ref CNoSight) = some (.type "type"))
    (slNoSight : PySem.W.subIn K (.ref CNoSight) (.ref CLampError) = some true)
    (gaNoSight : PySem.W.findIn K (.ref CNoSight) "__getattribute__" = some (some (.builtin "BaseException.__getattribute__")))
    (ggNoSight : PySem.W.findIn K (.ref CNoSight) "__getattr__" = some none)
    (hdNoSight : PySem.W.hasDictIn K CNoSight = true)
    (clNoSight : PySem.W.findIn K (.ref CNoSight) "__class__" = some (some (.builtin "object.__class__")))
    (mrNoSight : PySem.W.mroIn K CNoSight (.type "object") = some true)
    (isNoSightNoLight : PySem.W.subIn K (.ref CNoSight) (.ref CNoLight) = some false)
    (isNoSightNoBook : PySem.W.subIn K (.ref CNoSight) (.ref CNoBook) = some false)
    (isNoSightNoSight : PySem.W.subIn K (.ref CNoSight) (.ref CNoSight) = some true)
    (isNoSightNoFit : PySem.W.subIn K (.ref CNoSight) (.ref CNoFit) = some false)
    (isNoSightTooLong : PySem.W.subIn K (.ref CNoSight) (.ref CTooLong) = some false)
    (isNoSightNoNote : PySem.W.subIn K (.ref CNoSight) (.ref CNoNote) = some false)
    (veNoSight : PySem.W.subIn K (.ref CNoSight) (.type "ValueError") = some true)
    (xTooLong : PySem.W.excIn K CTooLong [.type "ValueError", .type "Exception", .type "BaseException", .type "object"] "ValueError.__new__" = true)
    (kkTooLong : PySem.W.keepIn K (.ref CTooLong) = true)
    (sbTooLong : PySem.W.subIn K (.ref CTooLong) (.type "BaseException") = some true)
    (tyTooLong : PySem.W.typeIn K (.ref CTooLong) = some (.type "type"))
    (slTooLong : PySem.W.subIn K (.ref CTooLong) (.ref CLampError) = some true)
    (gaTooLong : PySem.W.findIn K (.ref CTooLong) "__getattribute__" = some (some (.builtin "BaseException.__getattribute__")))
    (ggTooLong : PySem.W.findIn K (.ref CTooLong) "__getattr__" = some none)
    (hdTooLong : PySem.W.hasDictIn K CTooLong = true)
    (clTooLong : PySem.W.findIn K (.ref CTooLong) "__class__" = some (some (.builtin "object.__class__")))
    (mrTooLong : PySem.W.mroIn K CTooLong (.type "object") = some true)
    (isTooLongNoLight : PySem.W.subIn K (.ref CTooLong) (.ref CNoLight) = some false)
    (isTooLongNoBook : PySem.W.subIn K (.ref CTooLong) (.ref CNoBook) = some false)
    (isTooLongNoSight : PySem.W.subIn K (.ref CTooLong) (.ref CNoSight) = some false)
    (isTooLongNoFit : PySem.W.subIn K (.ref CTooLong) (.ref CNoFit) = some false)
    (isTooLongTooLong : PySem.W.subIn K (.ref CTooLong) (.ref CTooLong) = some true)
    (isTooLongNoNote : PySem.W.subIn K (.ref CTooLong) (.ref CNoNote) = some false)
    (veTooLong : PySem.W.subIn K (.ref CTooLong) (.type "ValueError") = some true) :
    ∃ fd : FuncData, (∀ (s : Shared) (v : Value), BindsTo s fd ⟨[v], []⟩ [("script", v)]) ∧ ∀ base : Heap, K.In base → base.Ns mainGlobals mg → FnOk l.prog w K mg base CX0 9 fa fd ["script"] (sp_law K) := by
  have e := hfa.symm.trans (PySem.W.mg_of X G a29)
  cases e
  have F0 := fun_mk (st := s_is_light) l0 c0 k0
  have b0 := F0.binds (ps := ["text"]) fun _ _ _ _ _ _ us hl => match us, hl with | [_], _ => rfl
  have F1 := fun_mk (st := s_asked_light) l1 c1 k1
  have b1 := F1.binds (ps := ["text"]) fun _ _ _ _ _ _ us hl => match us, hl with | [_], _ => rfl
  have F2 := fun_mk (st := s_showing) l2 c2 k2
  have b2 := F2.binds (ps := ["light", "moment", "long"]) fun _ _ _ _ _ _ us hl => match us, hl with | [_, _, _], _ => rfl
  have F3 := fun_mk (st := s_seen) l3 c3 k3
  have b3 := F3.binds (ps := ["light", "moment", "long"]) fun _ _ _ _ _ _ us hl => match us, hl with | [_, _, _], _ => rfl
  have F4 := fun_mk (st := s_shortest_of) l4 c4 k4
  have b4 := F4.binds (ps := ["row"]) fun _ _ _ _ _ _ us hl => match us, hl with | [_], _ => rfl
  have F5 := fun_mk (st := s_shortest) l5 c5 k5
  have b5 := F5.binds (ps := ["light"]) fun _ _ _ _ _ _ us hl => match us, hl with | [_], _ => rfl
  have F6 := fun_mk (st := s_turn) l6 c6 k6
  have b6 := F6.binds (ps := ["one", "other"]) fun _ _ _ _ _ _ us hl => match us, hl with | [_, _], _ => rfl
  have F7 := fun_mk (st := s_parting) l7 c7 k7
  have b7 := F7.binds (ps := ["one", "moment", "other", "other_moment"]) fun _ _ _ _ _ _ us hl => match us, hl with | [_, _, _, _], _ => rfl
  have F8 := fun_mk (st := s_both) l8 c8 k8
  have b8 := F8.binds (ps := ["one", "other"]) fun _ _ _ _ _ _ us hl => match us, hl with | [_, _], _ => rfl
  have F9 := fun_mk (st := s_asked_book) l9 c9 k9
  have b9 := F9.binds (ps := ["book"]) fun _ _ _ _ _ _ us hl => match us, hl with | [_], _ => rfl
  have F10 := fun_mk (st := s_asked_sight) l10 c10 k10
  have b10 := F10.binds (ps := ["sight"]) fun _ _ _ _ _ _ us hl => match us, hl with | [_], _ => rfl
  have F11 := fun_mk (st := s_spots) l11 c11 k11
  have b11 := F11.binds (ps := ["book"]) fun _ _ _ _ _ _ us hl => match us, hl with | [_], _ => rfl
  have F12 := fun_mk (st := s_fitting) l12 c12 k12
  have b12 := F12.binds (ps := ["book", "sight"]) fun _ _ _ _ _ _ us hl => match us, hl with | [_, _], _ => rfl
  have F13 := fun_mk (st := s_watch) l13 c13 k13
  have b13 := F13.binds (ps := ["book"]) fun _ _ _ _ _ _ us hl => match us, hl with | [_], _ => rfl
  have F14 := fun_mk (st := s_twins) l14 c14 k14
  have b14 := F14.binds (ps := ["book"]) fun _ _ _ _ _ _ us hl => match us, hl with | [_], _ => rfl
  have F15 := fun_mk (st := s_fits) l15 c15 k15
  have b15 := F15.binds (ps := ["book", "sight"]) fun _ _ _ _ _ _ us hl => match us, hl with | [_, _], _ => rfl
  have F16 := fun_mk (st := s_sure) l16 c16 k16
  have b16 := F16.binds (ps := ["book", "sight"]) fun _ _ _ _ _ _ us hl => match us, hl with | [_, _], _ => rfl
  have F17 := fun_mk (st := s_coming) l17 c17 k17
  have b17 := F17.binds (ps := ["book", "sight"]) fun _ _ _ _ _ _ us hl => match us, hl with | [_, _], _ => rfl
  have F18 := fun_mk (st := s_shown) l18 c18 k18
  have b18 := F18.binds (ps := ["book"]) fun _ _ _ _ _ _ us hl => match us, hl with | [_], _ => rfl
  have F19 := fun_mk (st := s__law_cell_at) l19 c19 k19
  have b19 := F19.binds (ps := ["script", "k"]) fun _ _ _ _ _ _ us hl => match us, hl with | [_, _], _ => rfl
  have F20 := fun_mk (st := s__law_word_of) l20 c20 k20
  have b20 := F20.binds (ps := ["e"]) fun _ _ _ _ _ _ us hl => match us, hl with | [_], _ => rfl
  have F21 := fun_mk (st := s__law_light_by) l21 c21 k21
  have b21 := F21.binds (ps := ["head", "cell"]) fun _ _ _ _ _ _ us hl => match us, hl with | [_, _], _ => rfl
  have F22 := fun_mk (st := s__law_book_by) l22 c22 k22
  have b22 := F22.binds (ps := ["script"]) fun _ _ _ _ _ _ us hl => match us, hl with | [_], _ => rfl
  have F23 := fun_mk (st := s__law_of_lights) l23 c23 k23
  have b23 := F23.binds (ps := ["which", "one", "other", "long"]) fun _ _ _ _ _ _ us hl => match us, hl with | [_, _, _, _], _ => rfl
  have F24 := fun_mk (st := s__law_of_books) l24 c24 k24
  have b24 := F24.binds (ps := ["which", "book", "sight"]) fun _ _ _ _ _ _ us hl => match us, hl with | [_, _, _], _ => rfl
  have F25 := fun_mk (st := s__law_tried) l25 c25 k25
  have b25 := F25.binds (ps := ["which", "one", "other", "long", "book", "sight"]) fun _ _ _ _ _ _ us hl => match us, hl with | [_, _, _, _, _, _], _ => rfl
  have F26 := fun_mk (st := s__law_bad_light) l26 c26 k26
  have b26 := F26.binds (ps := ["light", "cell"]) fun _ _ _ _ _ _ us hl => match us, hl with | [_, _], _ => rfl
  have F27 := fun_mk (st := s__law_spoilt) l27 c27 k27
  have b27 := F27.binds (ps := ["script", "book", "bad"]) fun _ _ _ _ _ _ us hl => match us, hl with | [_, _, _], _ => rfl
  have F28 := fun_mk (st := s__law_due) l28 c28 k28
  have b28 := F28.binds (ps := ["which", "bad"]) fun _ _ _ _ _ _ us hl => match us, hl with | [_, _], _ => rfl
  have F29 := fun_mk (st := s_law) l29 c29 k29
  have b29 := F29.binds (ps := ["script"]) fun _ _ _ _ _ _ us hl => match us, hl with | [_], _ => rfl
  let T : Txt K mg := { a_is_light := f0, d_is_light := _, f_is_light := F0, g_is_light := PySem.W.mg_of X G a0, b_is_light := b0, a_asked_light := f1, d_asked_light := _, f_asked_light := F1, g_asked_light := PySem.W.mg_of X G a1, b_asked_light := b1, a_showing := f2, d_showing := _, f_showing := F2, g_showing := PySem.W.mg_of X G a2, b_showing := b2, a_seen := f3, d_seen := _, f_seen := F3, g_seen := PySem.W.mg_of X G a3, b_seen := b3, a_shortest_of := f4, d_shortest_of := _, f_shortest_of := F4, g_shortest_of := PySem.W.mg_of X G a4, b_shortest_of := b4, a_shortest := f5, d_shortest := _, f_shortest := F5, g_shortest := PySem.W.mg_of X G a5, b_shortest := b5, a_turn := f6, d_turn := _, f_turn := F6, g_turn := PySem.W.mg_of X G a6, b_turn := b6, a_parting := f7, d_parting := _, f_parting := F7, g_parting := PySem.W.mg_of X G a7, b_parting := b7, a_both := f8, d_both := _, f_both := F8, g_both := PySem.W.mg_of X G a8, b_both := b8, a_asked_book := f9, d_asked_book := _, f_asked_book := F9, g_asked_book := PySem.W.mg_of X G a9, b_asked_book := b9, a_asked_sight := f10, d_asked_sight := _, f_asked_sight := F10, g_asked_sight := PySem.W.mg_of X G a10, b_asked_sight := b10, a_spots := f11, d_spots := _, f_spots := F11, g_spots := PySem.W.mg_of X G a11, b_spots := b11, a_fitting := f12, d_fitting := _, f_fitting := F12, g_fitting := PySem.W.mg_of X G a12, b_fitting := b12, a_watch := f13, d_watch := _, f_watch := F13, g_watch := PySem.W.mg_of X G a13, b_watch := b13, a_twins := f14, d_twins := _, f_twins := F14, g_twins := PySem.W.mg_of X G a14, b_twins := b14, a_fits := f15, d_fits := _, f_fits := F15, g_fits := PySem.W.mg_of X G a15, b_fits := b15, a_sure := f16, d_sure := _, f_sure := F16, g_sure := PySem.W.mg_of X G a16, b_sure := b16, a_coming := f17, d_coming := _, f_coming := F17, g_coming := PySem.W.mg_of X G a17, b_coming := b17, a_shown := f18, d_shown := _, f_shown := F18, g_shown := PySem.W.mg_of X G a18, b_shown := b18, a__law_cell_at := f19, d__law_cell_at := _, f__law_cell_at := F19, g__law_cell_at := PySem.W.mg_of X G a19, b__law_cell_at := b19, a__law_word_of := f20, d__law_word_of := _, f__law_word_of := F20, g__law_word_of := PySem.W.mg_of X G a20, b__law_word_of := b20, a__law_light_by := f21, d__law_light_by := _, f__law_light_by := F21, g__law_light_by := PySem.W.mg_of X G a21, b__law_light_by := b21, a__law_book_by := f22, d__law_book_by := _, f__law_book_by := F22, g__law_book_by := PySem.W.mg_of X G a22, b__law_book_by := b22, a__law_of_lights := f23, d__law_of_lights := _, f__law_of_lights := F23, g__law_of_lights := PySem.W.mg_of X G a23, b__law_of_lights := b23, a__law_of_books := f24, d__law_of_books := _, f__law_of_books := F24, g__law_of_books := PySem.W.mg_of X G a24, b__law_of_books := b24, a__law_tried := f25, d__law_tried := _, f__law_tried := F25, g__law_tried := PySem.W.mg_of X G a25, b__law_tried := b25, a__law_bad_light := f26, d__law_bad_light := _, f__law_bad_light := F26, g__law_bad_light := PySem.W.mg_of X G a26, b__law_bad_light := b26, a__law_spoilt := f27, d__law_spoilt := _, f__law_spoilt := F27, g__law_spoilt := PySem.W.mg_of X G a27, b__law_spoilt := b27, a__law_due := f28, d__law_due := _, f__law_due := F28, g__law_due := PySem.W.mg_of X G a28, b__law_due := b28, a_law := fa, d_law := _, f_law := F29, g_law := PySem.W.mg_of X G a29, b_law := b29, t_MOST := tMOST, m_MOST := PySem.W.mg_of X G mMOST, t_MOST_SEEN := tMOST_SEEN, m_MOST_SEEN := PySem.W.mg_of X G mMOST_SEEN, t_MOST_LIGHTS := tMOST_LIGHTS, m_MOST_LIGHTS := PySem.W.mg_of X G mMOST_LIGHTS, n_all := PySem.W.mg_none_of X G zall, n_len := PySem.W.mg_none_of X G zlen, n_range := PySem.W.mg_none_of X G zrange, n_enumerate := PySem.W.mg_none_of X G zenumerate, n_max := PySem.W.mg_none_of X G zmax, n_isinstance := PySem.W.mg_none_of X G zisinstance, n_ValueError := PySem.W.mg_none_of X G zValueError, n_e := PySem.W.mg_none_of X G ze, n_list := PySem.W.mg_none_of X G zlist, c_LampError := CLampError, g_LampError := PySem.W.mg_of X G aLampError, c_NoLight := CNoLight, g_NoLight := PySem.W.mg_of X G aNoLight, c_NoBook := CNoBook, g_NoBook := PySem.W.mg_of X G aNoBook, c_NoSight := CNoSight, g_NoSight := PySem.W.mg_of X G aNoSight, c_NoFit := CNoFit, g_NoFit := PySem.W.mg_of X G aNoFit, c_TooLong := CTooLong, g_TooLong := PySem.W.mg_of X G aTooLong, c_NoNote := CNoNote, g_NoNote := PySem.W.mg_of X G aNoNote, x_NoLight := xNoLight, k_NoLight := kkNoLight, sb_NoLight := sbNoLight, ty_NoLight := tyNoLight, lm_NoLight := PySem.W.exm_ref sbL hdL tyL slNoLight, w_NoLight := ⟨⟨gaNoLight, ggNoLight, sbNoLight, hdNoLight, clNoLight, hn, ht, mrNoLight⟩, kit_ref icNoLight tcNoLight isNoLightNoLight isNoLightNoLight, kit_ref icNoBook tcNoBook isNoLightNoLight isNoLightNoBook, kit_ref icNoSight tcNoSight isNoLightNoLight isNoLightNoSight, kit_ref icNoFit tcNoFit isNoLightNoLight isNoLightNoFit, kit_ref icTooLong tcTooLong isNoLightNoLight isNoLightTooLong, kit_ref icNoNote tcNoNote isNoLightNoLight isNoLightNoNote, kit_ve veNoLight⟩, x_NoBook := xNoBook, k_NoBook := kkNoBook, sb_NoBook := sbNoBook, ty_NoBook := tyNoBook, lm_NoBook := PySem.W.exm_ref sbL hdL tyL slNoBook, w_NoBook := ⟨⟨gaNoBook, ggNoBook, sbNoBook, hdNoBook, clNoBook, hn, ht, mrNoBook⟩, kit_ref icNoLight tcNoLight isNoBookNoBook isNoBookNoLight, kit_ref icNoBook tcNoBook isNoBookNoBook isNoBookNoBook, kit_ref icNoSight tcNoSight isNoBookNoBook isNoBookNoSight, kit_ref icNoFit tcNoFit isNoBookNoBook isNoBookNoFit, kit_ref icTooLong tcTooLong isNoBookNoBook isNoBookTooLong, kit_ref icNoNote tcNoNote isNoBookNoBook isNoBookNoNote, kit_ve veNoBook⟩, x_NoSight := xNoSight, k_NoSight := kkNoSight, sb_NoSight := sbNoSight, ty_NoSight := tyNoSight, lm_NoSight := PySem.W.exm_ref sbL hdL tyL slNoSight, w_NoSight := ⟨⟨gaNoSight, ggNoSight, sbNoSight, hdNoSight, clNoSight, hn, ht, mrNoSight⟩, kit_ref icNoLight tcNoLight isNoSightNoSight isNoSightNoLight, kit_ref icNoBook tcNoBook isNoSightNoSight isNoSightNoBook, kit_ref icNoSight tcNoSight isNoSightNoSight isNoSightNoSight, kit_ref icNoFit tcNoFit isNoSightNoSight isNoSightNoFit, kit_ref icTooLong tcTooLong isNoSightNoSight isNoSightTooLong, kit_ref icNoNote tcNoNote isNoSightNoSight isNoSightNoNote, kit_ve veNoSight⟩, x_TooLong := xTooLong, k_TooLong := kkTooLong, sb_TooLong := sbTooLong, ty_TooLong := tyTooLong, lm_TooLong := PySem.W.exm_ref sbL hdL tyL slTooLong, w_TooLong := ⟨⟨gaTooLong, ggTooLong, sbTooLong, hdTooLong, clTooLong, hn, ht, mrTooLong⟩, kit_ref icNoLight tcNoLight isTooLongTooLong isTooLongNoLight, kit_ref icNoBook tcNoBook isTooLongTooLong isTooLongNoBook, kit_ref icNoSight tcNoSight isTooLongTooLong isTooLongNoSight, kit_ref icNoFit tcNoFit isTooLongTooLong isTooLongNoFit, kit_ref icTooLong tcTooLong isTooLongTooLong isTooLongTooLong, kit_ref icNoNote tcNoNote isTooLongTooLong isTooLongNoNote, kit_ve veTooLong⟩ }
  exact ⟨T.d_law, fun s v => .of_eq rfl, fun base _ _ => ok_law T⟩

end Lw
open PySem PySem.W PyProof.Rows
set_option maxRecDepth 100000 in
set_option maxHeartbeats 0 in
theorem PySem.Challenge.cw_lampwatch_k14_refused_holds : PySem.Challenge.rw_lampwatch_k14_refused.Holds := by
  w_on; o_law; k_head; (case hw => w_witness2)
  k_fill
  refine L2.walk_of (l := PySem.Challenge.rw_lampwatch_k14_refused) (n := 63) (k := 9) (x := "script") (CX := fun _ => L2.CX0) (sp := fun w => Lw.sp_law _) rfl (by decide) rfl ⟨rfl, by decide, by decide⟩ (fun w h Y => PySem.W.kIn_of Y) ?F (fun _ _ a ns hl _ hS => ⟨a, ns, rfl, hS, hl, fun _ => rfl⟩) (fun _ _ _ _ _ h => h)
  case F =>
    intro w mg fa h KX G hmg
    refine' Lw.all_mk KX G hmg ?a0 ?l0 ?c0 ?k0 ?a1 ?l1 ?c1 ?k1 ?a2 ?l2 ?c2 ?k2 ?a3 ?l3 ?c3 ?k3 ?a4 ?l4 ?c4 ?k4 ?a5 ?l5 ?c5 ?k5 ?a6 ?l6 ?c6 ?k6 ?a7 ?l7 ?c7 ?k7 ?a8 ?l8 ?c8 ?k8 ?a9 ?l9 ?c9 ?k9 ?a10 ?l10 ?c10 ?k10 ?a11 ?l11 ?c11 ?k11 ?a12 ?l12 ?c12 ?k12 ?a13 ?l13 ?c13 ?k13 ?a14 ?l14 ?c14 ?k14 ?a15 ?l15 ?c15 ?k15 ?a16 ?l16 ?c16 ?k16 ?a17 ?l17 ?c17 ?k17 ?a18 ?l18 ?c18 ?k18 ?a19 ?l19 ?c19 ?k19 ?a20 ?l20 ?c20 ?k20 ?a21 ?l21 ?c21 ?k21 ?a22 ?l22 ?c22 ?k22 ?a23 ?l23 ?c23 ?k23 ?a24 ?l24 ?c24 ?k24 ?a25 ?l25 ?c25 ?k25 ?a26 ?l26 ?c26 ?k26 ?a27 ?l27 ?c27 ?k27 ?a28 ?l28 ?c28 ?k28 ?a29 ?l29 ?c29 ?k29 ?mMOST ?mMOST_SEEN ?mMOST_LIGHTS ?zall ?zlen ?zrange ?zenumerate ?zmax ?zisinstance ?zValueError ?ze ?zlist ?aLampError ?aNoLight ?aNoBook ?aNoSight ?aNoFit ?aTooLong ?aNoNote ?sbL ?hdL ?tyL ?hn ?ht ?icNoLight ?tcNoLight ?icNoBook ?tcNoBook ?icNoSight ?tcNoSight ?icNoFit ?tcNoFit ?icTooLong ?tcTooLong ?icNoNote ?tcNoNote ?xNoLight ?kkNoLight ?sbNoLight ?tyNoLight ?slNoLight ?gaNoLight ?ggNoLight ?hdNoLight ?clNoLight ?mrNoLight ?isNoLightNoLight ?isNoLightNoBook ?isNoLightNoSight ?isNoLightNoFit ?isNoLightTooLong ?isNoLightNoNote ?veNoLight ?xNoBook ?kkNoBook ?sbNoBook ?tyNoBook ?slNoBook ?gaNoBook ?ggNoBook ?hdNoBook ?clNoBook ?mrNoBook ?isNoBookNoLight ?isNoBookNoBook ?isNoBookNoSight ?isNoBookNoFit ?isNoBookTooLong ?isNoBookNoNote ?veNoBook ?xNoSight ?kkNoSight ?sbNoSight ?tyNoSight ?slNoSight ?gaNoSight ?ggNoSight ?hdNoSight ?clNoSight ?mrNoSight ?isNoSightNoLight ?isNoSightNoBook ?isNoSightNoSight ?isNoSightNoFit ?isNoSightTooLong ?isNoSightNoNote ?veNoSight ?xTooLong ?kkTooLong ?sbTooLong ?tyTooLong ?slTooLong ?gaTooLong ?ggTooLong ?hdTooLong ?clTooLong ?mrTooLong ?isTooLongNoLight ?isTooLongNoBook ?isTooLongNoSight ?isTooLongNoFit ?isTooLongTooLong ?isTooLongNoNote ?veTooLong
    (case a0 => k_is)
    (case l0 => k_is)
    (case c0 => k_is)
    (case k0 => k_is)
    (case a1 => k_is)
    (case l1 => k_is)
    (case c1 => k_is)
    (case k1 => k_is)
    (case a2 => k_is)
    (case l2 => k_is)
    (case c2 => k_is)
    (case k2 => k_is)
    (case a3 => k_is)
    (case l3 => k_is)
    (case c3 => k_is)
    (case k3 => k_is)
    (case a4 => k_is)
    (case l4 => k_is)
    (case c4 => k_is)
    (case k4 => k_is)
    (case a5 => k_is)
    (case l5 => k_is)
    (case c5 => k_is)
    (case k5 => k_is)
    (case a6 => k_is)
    (case l6 => k_is)
    (case c6 => k_is)
    (case k6 => k_is)
    (case a7 => k_is)
    (case l7 => k_is)
    (case c7 => k_is)
    (case k7 => k_is)
    (case a8 => k_is)
    (case l8 => k_is)
    (case c8 => k_is)
    (case k8 => k_is)
    (case a9 => k_is)
    (case l9 => k_is)
    (case c9 => k_is)
    (case k9 => k_is)
    (case a10 => k_is)
    (case l10 => k_is)
    (case c10 => k_is)
    (case k10 => k_is)
    (case a11 => k_is)
    (case l11 => k_is)
    (case c11 => k_is)
    (case k11 => k_is)
    (case a12 => k_is)
    (case l12 => k_is)
    (case c12 => k_is)
    (case k12 => k_is)
    (case a13 => k_is)
    (case l13 => k_is)
    (case c13 => k_is)
    (case k13 => k_is)
    (case a14 => k_is)
    (case l14 => k_is)
    (case c14 => k_is)
    (case k14 => k_is)
    (case a15 => k_is)
    (case l15 => k_is)
    (case c15 => k_is)
    (case k15 => k_is)
    (case a16 => k_is)
    (case l16 => k_is)
    (case c16 => k_is)
    (case k16 => k_is)
    (case a17 => k_is)
    (case l17 => k_is)
    (case c17 => k_is)
    (case k17 => k_is)
    (case a18 => k_is)
    (case l18 => k_is)
    (case c18 => k_is)
    (case k18 => k_is)
    (case a19 => k_is)
    (case l19 => k_is)
    (case c19 => k_is)
    (case k19 => k_is)
    (case a20 => k_is)
    (case l20 => k_is)
    (case c20 => k_is)
    (case k20 => k_is)
    (case a21 => k_is)
    (case l21 => k_is)
    (case c21 => k_is)
    (case k21 => k_is)
    (case a22 => k_is)
    (case l22 => k_is)
    (case c22 => k_is)
    (case k22 => k_is)
    (case a23 => k_is)
    (case l23 => k_is)
    (case c23 => k_is)
    (case k23 => k_is)
    (case a24 => k_is)
    (case l24 => k_is)
    (case c24 => k_is)
    (case k24 => k_is)
    (case a25 => k_is)
    (case l25 => k_is)
    (case c25 => k_is)
    (case k25 => k_is)
    (case a26 => k_is)
    (case l26 => k_is)
    (case c26 => k_is)
    (case k26 => k_is)
    (case a27 => k_is)
    (case l27 => k_is)
    (case c27 => k_is)
    (case k27 => k_is)
    (case a28 => k_is)
    (case l28 => k_is)
    (case c28 => k_is)
    (case k28 => k_is)
    (case a29 => k_is)
    (case l29 => k_is)
    (case c29 => k_is)
    (case k29 => k_is)
    (case mMOST => k_is)
    (case mMOST_SEEN => k_is)
    (case mMOST_LIGHTS => k_is)
    (case zall => k_is)
    (case zlen => k_is)
    (case zrange => k_is)
    (case zenumerate => k_is)
    (case zmax => k_is)
    (case zisinstance => k_is)
    (case zValueError => k_is)
    (case ze => k_is)
    (case zlist => k_is)
    (case aLampError => k_is)
    (case aNoLight => k_is)
    (case aNoBook => k_is)
    (case aNoSight => k_is)
    (case aNoFit => k_is)
    (case aTooLong => k_is)
    (case aNoNote => k_is)
    (case sbL => k_is)
    (case hdL => k_is)
    (case tyL => k_is)
    (case hn => k_is)
    (case ht => k_is)
    (case icNoLight => k_is)
    (case tcNoLight => k_is)
    (case icNoBook => k_is)
    (case tcNoBook => k_is)
    (case icNoSight => k_is)
    (case tcNoSight => k_is)
    (case icNoFit => k_is)
    (case tcNoFit => k_is)
    (case icTooLong => k_is)
    (case tcTooLong => k_is)
    (case icNoNote => k_is)
    (case tcNoNote => k_is)
    (case xNoLight => first | k_exc | k_is)
    (case kkNoLight => k_is)
    (case sbNoLight => k_is)
    (case tyNoLight => k_is)
    (case slNoLight => k_is)
    (case gaNoLight => k_is)
    (case ggNoLight => k_is)
    (case hdNoLight => k_is)
    (case clNoLight => k_is)
    (case mrNoLight => k_is)
    (case isNoLightNoLight => k_is)
    (case isNoLightNoBook => k_is)
    (case isNoLightNoSight => k_is)
    (case isNoLightNoFit => k_is)
    (case isNoLightTooLong => k_is)
    (case isNoLightNoNote => k_is)
    (case veNoLight => k_is)
    (case xNoBook => first | k_exc | k_is)
    (case kkNoBook => k_is)
    (case sbNoBook => k_is)
    (case tyNoBook => k_is)
    (case slNoBook => k_is)
    (case gaNoBook => k_is)
    (case ggNoBook => k_is)
    (case hdNoBook => k_is)
    (case clNoBook => k_is)
    (case mrNoBook => k_is)
    (case isNoBookNoLight => k_is)
    (case isNoBookNoBook => k_is)
    (case isNoBookNoSight => k_is)
    (case isNoBookNoFit => k_is)
    (case isNoBookTooLong => k_is)
    (case isNoBookNoNote => k_is)
    (case veNoBook => k_is)
    (case xNoSight => first | k_exc | k_is)
    (case kkNoSight => k_is)
    (case sbNoSight => k_is)
    (case tyNoSight => k_is)
    (case slNoSight => k_is)
    (case gaNoSight => k_is)
    (case ggNoSight => k_is)
    (case hdNoSight => k_is)
    (case clNoSight => k_is)
    (case mrNoSight => k_is)
    (case isNoSightNoLight => k_is)
    (case isNoSightNoBook => k_is)
    (case isNoSightNoSight => k_is)
    (case isNoSightNoFit => k_is)
    (case isNoSightTooLong => k_is)
    (case isNoSightNoNote => k_is)
    (case veNoSight => k_is)
    (case xTooLong => first | k_exc | k_is)
    (case kkTooLong => k_is)
    (case sbTooLong => k_is)
    (case tyTooLong => k_is)
    (case slTooLong => k_is)
    (case gaTooLong => k_is)
    (case ggTooLong => k_is)
    (case hdTooLong => k_is)
    (case clTooLong => k_is)
    (case mrTooLong => k_is)
    (case isTooLongNoLight => k_is)
    (case isTooLongNoBook => k_is)
    (case isTooLongNoSight => k_is)
    (case isTooLongNoFit => k_is)
    (case isTooLongTooLong => k_is)
    (case isTooLongNoNote => k_is)
    (case veTooLong => k_is)
