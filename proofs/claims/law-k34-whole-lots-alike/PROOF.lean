import PyProof.Rows.All
import Wide.All
import OpenK.AllK
import Wide.FinOn
import HandS.ForMost
import HandS.Walk
import KE.GoesNewDict
import KE.GoesEnum
import HandS.Defaults
import HandS.DictTup
import HandS.TupLen
import HandS.DictComp
import KE.KDictDisplayH
import HandS.SortKw
import HandS.Slots
import HandS.Evl
import KE.SortCalls
import KE.KSortKeyAny
import HandS.Wide
import HandS.Conv
import HandS.TupAny
import HandS.Star
import HandS.Style
import HandS.SortInts
import HandS.TupMul
import HandS.SlotsOwn
import HandS.IsInst
import HandS.Words
import HandS.WideBits
import PyProof.P3Eq
import KE.KStateDown
import HandS.Head0
import HandS.Head1
import HandS.Head2
import HandS.HeadEnd
import HandS.HeadHook1
import HandS.HeadHook2
import PySem.Challenge.RW_alltriangular_k34_whole_lots_alike
set_option Elab.async false
set_option linter.all false
set_option maxRecDepth 100000
set_option maxHeartbeats 0
-- M1
namespace La
abbrev Vec := Nat → Int

def sumN : Nat → (Nat → Int) → Int
  | 0, _ => 0
  | n + 1, f => sumN n f + f n
theorem sumN_congr {n : Nat} {f g : Nat → Int} (h : ∀ j, j < n → f j = g j) : sumN n f = sumN n g := by
  induction n with
  | zero => rfl
  | succ n ih => simp only [sumN]; rw [ih fun j hj => h j (by omega), h n (by omega)]
theorem sumN_add {n : Nat} {f g : Nat → Int} : sumN n (fun j => f j + g j) = sumN n f + sumN n g := by
  induction n with
  | zero => rfl
  | succ n ih => simp only [sumN]; rw [ih]; omega
theorem sumN_sub {n : Nat} {f g : Nat → Int} : sumN n (fun j => f j - g j) = sumN n f - sumN n g := by
  induction n with
  | zero => rfl
  | succ n ih => simp only [sumN]; rw [ih]; omega
theorem sumN_mul {n : Nat} {c : Int} {f : Nat → Int} : sumN n (fun j => c * f j) = c * sumN n f := by
  induction n with
  | zero => simp [sumN]
  | succ n ih => simp only [sumN]; rw [ih, Int.mul_add]
theorem sumN_mulR {n : Nat} {c : Int} {f : Nat → Int} : sumN n (fun j => f j * c) = sumN n f * c := by
  rw [Int.mul_comm, ← sumN_mul]
  exact sumN_congr fun j _ => Int.mul_comm _ _
theorem sumN_zero {n : Nat} {f : Nat → Int} (h : ∀ j, j < n → f j = 0) : sumN n f = 0 := by
  induction n with
  | zero => rfl
  | succ n ih => simp only [sumN]; rw [ih fun j hj => h j (by omega), h n (by omega)]; rfl
/-- all but one are zero -/
theorem sumN_one {n : Nat} {f : Nat → Int} {k : Nat} (hk : k < n) (h : ∀ j, j < n → j ≠ k → f j = 0) : sumN n f = f k := by
  induction n with
  | zero => omega
  | succ n ih =>
    simp only [sumN]
    by_cases e : k = n
    · subst e
      rw [sumN_zero fun j hj => h j (by omega) (by omega)]
      omega
    · rw [ih (by omega) fun j hj ne => h j (by omega) ne, h n (by omega) (fun z => e z.symm)]
      omega
theorem sumN_comm {n m : Nat} {f : Nat → Nat → Int} : sumN n (fun i => sumN m (fun j => f i j)) = sumN m (fun j => sumN n (fun i => f i j)) := by
  induction n with
  | zero => simp only [sumN]; rw [sumN_zero fun _ _ => rfl]
  | succ n ih => simp only [sumN]; rw [ih, ← sumN_add]
theorem sumN_abs {n : Nat} {f : Nat → Int} {b : Nat} (h : ∀ j, j < n → (f j).natAbs ≤ b) : (sumN n f).natAbs ≤ n * b := by
  induction n with
  | zero => simp [sumN]
  | succ n ih =>
    simp only [sumN]
    have h1 := ih fun j hj => h j (by omega)
    have h2 := h n (by omega)
    have h3 := Int.natAbs_add_le (sumN n f) (f n)
    rw [Nat.succ_mul]
    omega

def lead (v : Vec) : Nat → Option Nat
  | 0 => none
  | n + 1 => match lead v n with
    | some i => some i
    | none => if v n ≠ 0 then some n else none
theorem lead_none {v : Vec} {n : Nat} : lead v n = none ↔ ∀ j, j < n → v j = 0 := by
  induction n with
  | zero => simp [lead]
  | succ n ih =>
    simp only [lead]
    cases h : lead v n with
    | some i =>
      refine Iff.intro (fun z => by cases z) (fun z => ?_)
      have q := ih.mpr fun j hj => z j (by omega)
      rw [h] at q
      cases q
    | none =>
      have q := ih.mp h
      by_cases e : v n = 0
      · simp only [e]
        refine ⟨fun _ j hj => ?_, fun _ => rfl⟩
        by_cases hj2 : j = n
        · rw [hj2, e]
        · exact q j (by omega)
      · simp only [ne_eq, e, not_false_eq_true, if_true]
        exact Iff.intro (fun z => by cases z) (fun z => absurd (z n (by omega)) e)
theorem lead_some {v : Vec} {n i : Nat} : lead v n = some i ↔ i < n ∧ v i ≠ 0 ∧ ∀ j, j < i → v j = 0 := by
  induction n with
  | zero => simp [lead]
  | succ n ih =>
    simp only [lead]
    cases h : lead v n with
    | some k =>
      have hk := (show lead v n = some k → k < n ∧ v k ≠ 0 ∧ ∀ j, j < k → v j = 0 from by
        intro z
        by_cases e : k = i
        · subst e; exact ih.mp z
        · -- use a general argument
          clear ih
          induction n with
          | zero => simp [lead] at z
          | succ n ih2 =>
            simp only [lead] at z
            cases h2 : lead v n with
            | some m =>
              rw [h2] at z
              cases z
              obtain ⟨a, b, c⟩ := ih2 h2 h2
              exact ⟨by omega, b, c⟩
            | none =>
              rw [h2] at z
              by_cases e2 : v n = 0
              · simp [e2] at z
              · simp only [ne_eq, e2, not_false_eq_true, if_true] at z
                cases z
                exact ⟨by omega, e2, lead_none.mp h2⟩) h
      refine ⟨fun z => ?_, fun z => ?_⟩
      · cases z
        exact ⟨by omega, hk.2⟩
      · have : k = i := by
          rcases Nat.lt_trichotomy k i with q | q | q
          · exact absurd (z.2.2 k q) hk.2.1
          · exact q
          · exact absurd (hk.2.2 i q) z.2.1
        rw [this]
    | none =>
      have q := lead_none.mp h
      by_cases e : v n = 0
      · simp only [e]
        refine Iff.intro (fun z => by simp at z) (fun z => ?_)
        by_cases e2 : i = n
        · subst e2; exact absurd e z.2.1
        · exact absurd (q i (by omega)) z.2.1
      · simp only [ne_eq, e, not_false_eq_true, if_true]
        refine ⟨fun z => ?_, fun z => ?_⟩
        · cases z; exact ⟨by omega, e, q⟩
        · by_cases e2 : i = n
          · rw [e2]
          · exact absurd (q i (by omega)) z.2.1
/-- the lead, 0 for none -/
def ld (w : Nat) (v : Vec) : Nat := (lead v w).getD 0
/-- i is the lead of v -/
structure IsLd (w : Nat) (v : Vec) (i : Nat) : Prop where
  lt : i < w
  ne : v i ≠ 0
  bf : ∀ j, j < i → v j = 0
theorem isLd_iff {w : Nat} {v : Vec} {i : Nat} : lead v w = some i ↔ IsLd w v i := lead_some.trans ⟨fun h => ⟨h.1, h.2.1, h.2.2⟩, fun h => ⟨h.lt, h.ne, h.bf⟩⟩
theorem IsLd.ld {w : Nat} {v : Vec} {i : Nat} (h : IsLd w v i) : ld w v = i := by unfold La.ld; rw [isLd_iff.mpr h]; rfl
theorem IsLd.lead {w : Nat} {v : Vec} {i : Nat} (h : IsLd w v i) : lead v w = some i := isLd_iff.mpr h
theorem IsLd.uniq {w : Nat} {v : Vec} {i j : Nat} (h : IsLd w v i) (g : IsLd w v j) : i = j := h.ld.symm.trans g.ld
/-- a row that is not zero -/
def Nz (w : Nat) (v : Vec) : Prop := ∃ j, j < w ∧ v j ≠ 0
theorem nz_iff {w : Nat} {v : Vec} : Nz w v ↔ lead v w ≠ none := by
  constructor
  · rintro ⟨j, hj, e⟩ z
    exact e (lead_none.mp z j hj)
  · intro h
    cases e : lead v w with
    | none => exact absurd e h
    | some i => exact ⟨i, (lead_some.mp e).1, (lead_some.mp e).2.1⟩
theorem Nz.isLd {w : Nat} {v : Vec} (h : Nz w v) : IsLd w v (ld w v) := by
  cases e : lead v w with
  | none => exact absurd e (nz_iff.mp h)
  | some i =>
    have q := isLd_iff.mp e
    rw [q.ld]
    exact q
theorem IsLd.nz {w : Nat} {v : Vec} {i : Nat} (h : IsLd w v i) : Nz w v := ⟨i, h.lt, h.ne⟩
theorem not_nz {w : Nat} {v : Vec} : ¬ Nz w v ↔ ∀ j, j < w → v j = 0 := by
  rw [nz_iff, Decidable.not_not, lead_none]

def gcdI (a b : Int) : Int := (Int.gcd a b : Int)
def gcdN (v : Vec) : Nat → Int
  | 0 => 0
  | n + 1 => gcdI (gcdN v n) (v n)
theorem gcdN_dvd {v : Vec} {n : Nat} : ∀ {j : Nat}, j < n → gcdN v n ∣ v j := by
  induction n with
  | zero => intro j h; omega
  | succ n ih =>
    intro j h
    by_cases e : j = n
    · subst e; exact Int.gcd_dvd_right _ _
    · exact Int.dvd_trans (Int.gcd_dvd_left _ _) (ih (by omega))
theorem dvd_gcdN {v : Vec} {n : Nat} {d : Int} (h : ∀ j, j < n → d ∣ v j) : d ∣ gcdN v n := by
  induction n with
  | zero => exact Int.dvd_zero d
  | succ n ih => exact Int.dvd_coe_gcd (ih fun j hj => h j (by omega)) (h n (by omega))
theorem gcdN_nonneg {v : Vec} {n : Nat} : 0 ≤ gcdN v n := by
  cases n with
  | zero => exact Int.le_refl 0
  | succ n => exact Int.natCast_nonneg _
theorem gcdN_zero {v : Vec} {n : Nat} : gcdN v n = 0 ↔ ∀ j, j < n → v j = 0 := by
  constructor
  · intro h j hj
    have q := gcdN_dvd (v := v) hj
    rw [h] at q
    exact Int.zero_dvd.mp q
  · intro h
    exact Int.zero_dvd.mp (dvd_gcdN (d := 0) fun j hj => by rw [h j hj]; exact Int.dvd_refl 0)
/-- the row made plain -/
def plain (w : Nat) (v : Vec) : Vec :=
  let g := gcdN v w
  if g = 0 then v else let b := if v (ld w v) > 0 then g else -g
    fun i => (v i).fdiv b
/-- what plain comes to -/
structure Plain (w : Nat) (v p : Vec) : Prop where
  c : ∃ c : Int, c ≠ 0 ∧ ∀ j, j < w → v j = c * p j
  prim : ∀ d : Int, (∀ j, j < w → d ∣ p j) → d ∣ 1
  pos : 0 < p (ld w v)
theorem plain_spec {w : Nat} {v : Vec} (h : Nz w v) : Plain w v (plain w v) := by
  have hg : gcdN v w ≠ 0 := fun z => not_nz.mpr (gcdN_zero.mp z) h
  have hl := h.isLd
  have gp := gcdN_nonneg (v := v) (n := w)
  have key : ∀ b : Int, (b = gcdN v w ∨ b = - gcdN v w) → b ≠ 0 ∧ ∀ j, j < w → v j = b * (v j).fdiv b := by
    intro b hb
    have b0 : b ≠ 0 := by omega
    refine ⟨b0, fun j hj => ?_⟩
    have d : b ∣ v j := by
      rcases hb with e | e
      · rw [e]; exact gcdN_dvd hj
      · rw [e]; exact Int.neg_dvd.mpr (gcdN_dvd hj)
    rw [Int.mul_fdiv_cancel' d]
  have e : plain w v = fun i => (v i).fdiv (if v (ld w v) > 0 then gcdN v w else - gcdN v w) := by
    unfold plain
    simp only [hg, if_false]
  rw [e]
  obtain ⟨b, hb, eb⟩ : ∃ b, (b = gcdN v w ∨ b = - gcdN v w) ∧ b = if v (ld w v) > 0 then gcdN v w else - gcdN v w := by
    refine ⟨_, ?_, rfl⟩
    split
    · exact .inl rfl
    · exact .inr rfl
  obtain ⟨b0, k⟩ := key b hb
  rw [← eb]
  refine ⟨⟨b, b0, k⟩, fun d hd => ?_, ?_⟩
  · have q : b * d ∣ gcdN v w := dvd_gcdN fun j hj => by
      rw [k j hj]
      exact Int.mul_dvd_mul_left b (hd j hj)
    have q2 : b * d ∣ b * 1 := by
      rw [Int.mul_one]
      rcases hb with e | e
      · rw [e] at q ⊢; exact q
      · rw [e] at q ⊢; exact Int.dvd_neg.mpr q
    exact Int.dvd_of_mul_dvd_mul_left b0 q2
  · have q := k (ld w v) hl.lt
    show 0 < (v (ld w v)).fdiv b
    by_cases hp : v (ld w v) > 0
    · rw [if_pos hp] at eb
      have bp : 0 < b := by omega
      rw [q] at hp
      exact Int.pos_of_mul_pos_right hp (by omega)
    · rw [if_neg hp] at eb
      have bn : b < 0 := by omega
      have ne := hl.ne
      have h1 : v (ld w v) < 0 := by omega
      rcases Int.lt_trichotomy ((v (ld w v)).fdiv b) 0 with z | z | z
      · exfalso
        have : 0 < b * (v (ld w v)).fdiv b := Int.mul_pos_of_neg_of_neg bn z
        omega
      · exfalso
        rw [z, Int.mul_zero] at q
        omega
      · exact z
theorem plain_zero {w : Nat} {v : Vec} (h : ¬ Nz w v) : plain w v = v := by
  have : gcdN v w = 0 := gcdN_zero.mpr (not_nz.mp h)
  unfold plain
  simp only [this, if_true]
section
variable {w : Nat} {v p : Vec}
theorem Plain.iff (h : Plain w v p) {j : Nat} (hj : j < w) : p j = 0 ↔ v j = 0 := by
  obtain ⟨c, c0, k⟩ := h.c
  rw [k j hj]
  constructor
  · intro z; rw [z, Int.mul_zero]
  · intro z; exact (Int.mul_eq_zero.mp z).resolve_left c0
theorem Plain.le (h : Plain w v p) {j : Nat} (hj : j < w) : (p j).natAbs ≤ (v j).natAbs := by
  obtain ⟨c, c0, k⟩ := h.c
  rw [k j hj, Int.natAbs_mul]
  exact Nat.le_mul_of_pos_left _ (by omega)
theorem plain_iff {j : Nat} (hj : j < w) : plain w v j = 0 ↔ v j = 0 := by
  by_cases h : Nz w v
  · exact (plain_spec h).iff hj
  · rw [plain_zero h]
theorem plain_le {j : Nat} (hj : j < w) : (plain w v j).natAbs ≤ (v j).natAbs := by
  by_cases h : Nz w v
  · exact (plain_spec h).le hj
  · rw [plain_zero h]; exact Nat.le_refl _
theorem lead_congr {u : Vec} (h : ∀ j, j < w → (u j = 0 ↔ v j = 0)) : lead u w = lead v w := by
  cases e : lead v w with
  | none => exact lead_none.mpr fun j hj => (h j hj).mpr (lead_none.mp e j hj)
  | some i =>
    obtain ⟨a, b, c⟩ := lead_some.mp e
    exact lead_some.mpr ⟨a, fun z => b ((h i a).mp z), fun j hj => (h j (by omega)).mpr (c j hj)⟩
theorem lead_plain : lead (plain w v) w = lead v w := lead_congr fun j hj => plain_iff hj
theorem nz_plain : Nz w (plain w v) ↔ Nz w v := by rw [nz_iff, nz_iff, lead_plain]
/-- some multiple -/
theorem plain_mul : ∃ c : Int, c ≠ 0 ∧ ∀ j, j < w → v j = c * plain w v j := by
  by_cases h : Nz w v
  · exact (plain_spec h).c
  · rw [plain_zero h]; exact ⟨1, by decide, fun j _ => by omega⟩
/-- primitive: nothing but units divide all -/
def Prim (w : Nat) (v : Vec) : Prop := ∀ d : Int, (∀ j, j < w → d ∣ v j) → d ∣ 1
theorem prim_plain (h : Nz w v) : Prim w (plain w v) := (plain_spec h).prim
/-- a multiple of a primitive row, by a quotient -/
theorem prim_dvd (h : Prim w v) {a b : Int} (k : ∀ j, j < w → a ∣ b * v j) : a ∣ b := by
  have h1 : a ∣ gcdN (fun j => b * v j) w := dvd_gcdN k
  have h2 : ∃ m : Int, gcdN (fun j => b * v j) w = b * m ∧ m ∣ 1 := by
    have hb : b ∣ gcdN (fun j => b * v j) w := dvd_gcdN fun j _ => Int.dvd_mul_right _ _
    by_cases b0 : b = 0
    · subst b0
      have : gcdN (fun j => 0 * v j) w = 0 := gcdN_zero.mpr fun j _ => Int.zero_mul _
      exact ⟨1, by rw [this]; rfl, Int.dvd_refl 1⟩
    · obtain ⟨m, hm⟩ := hb
      refine ⟨m, hm, h m fun j hj => ?_⟩
      have : gcdN (fun j => b * v j) w ∣ b * v j := gcdN_dvd (v := fun j => b * v j) hj
      rw [hm] at this
      exact Int.dvd_of_mul_dvd_mul_left b0 this
  obtain ⟨m, hm, m1⟩ := h2
  rw [hm] at h1
  obtain ⟨t, ht⟩ := m1
  have : b = b * m * t := by rw [Int.mul_assoc, ← ht, Int.mul_one]
  rw [this]
  exact Int.dvd_trans h1 (Int.dvd_mul_right _ _)
/-- two rows on one line: the primitive one is the smaller -/
theorem prim_le (h : Prim w v) {u : Vec} (nz : Nz w u) {a b : Int} (a0 : a ≠ 0) (k : ∀ j, j < w → a * u j = b * v j) {j : Nat} (hj : j < w) : (v j).natAbs ≤ (u j).natAbs := by
  have d : a ∣ b := prim_dvd h fun j hj => ⟨u j, (k j hj).symm⟩
  obtain ⟨m, rfl⟩ := d
  have e : ∀ j, j < w → u j = m * v j := fun j hj => by
    have := k j hj
    rw [Int.mul_assoc] at this
    exact Int.eq_of_mul_eq_mul_left a0 this
  have m0 : m ≠ 0 := by
    rintro rfl
    obtain ⟨i, hi, ne⟩ := nz
    exact ne (by rw [e i hi, Int.zero_mul])
  rw [e j hj, Int.natAbs_mul]
  exact Nat.le_mul_of_pos_left _ (by omega)
end
end La
-- M2
namespace La
/-- the span of some rows, over the rationals -/
inductive Sp (w : Nat) (R : List Vec) : Vec → Prop
  | mem {r : Vec} : r ∈ R → Sp w R r
  | eq {u v : Vec} : Sp w R v → (∀ j, j < w → u j = v j) → Sp w R u
  | zero : Sp w R fun _ => 0
  | add {u v : Vec} : Sp w R u → Sp w R v → Sp w R fun j => u j + v j
  | mul {v : Vec} (c : Int) : Sp w R v → Sp w R fun j => c * v j
  | div {v : Vec} {c : Int} : c ≠ 0 → Sp w R (fun j => c * v j) → Sp w R v
/-- a linear form on rows of width w -/
structure Lin (w : Nat) (f : Vec → Int) : Prop where
  eq : ∀ u v, (∀ j, j < w → u j = v j) → f u = f v
  add : ∀ u v, f (fun j => u j + v j) = f u + f v
  mul : ∀ c v, f (fun j => c * v j) = c * f v
section
variable {w : Nat} {R S C : List Vec} {u v r : Vec} {f : Vec → Int}
theorem Sp.lin (L : Lin w f) (h : Sp w R v) (z : ∀ r ∈ R, f r = 0) : f v = 0 := by
  induction h with
  | mem h => exact z _ h
  | eq _ e ih => rw [L.eq _ _ e, ih]
  | zero =>
    have := L.mul 0 fun _ => 0
    rw [L.eq (fun _ => 0) (fun j => 0 * (fun _ => (0 : Int)) j) (fun j _ => rfl), this, Int.zero_mul]
  | add _ _ i1 i2 => rw [L.add, i1, i2]; rfl
  | mul c _ ih => rw [L.mul, ih, Int.mul_zero]
  | div c0 _ ih =>
    rw [L.mul] at ih
    exact (Int.mul_eq_zero.mp ih).resolve_left c0
theorem Sp.sub (h : Sp w R v) (z : ∀ r ∈ R, Sp w S r) : Sp w S v := by
  induction h with
  | mem h => exact z _ h
  | eq _ e ih => exact .eq ih e
  | zero => exact .zero
  | add _ _ i1 i2 => exact .add i1 i2
  | mul c _ ih => exact .mul c ih
  | div c0 _ ih => exact .div c0 ih
theorem Sp.mono (h : Sp w R v) (z : ∀ r ∈ R, r ∈ S) : Sp w S v := h.sub fun r hr => .mem (z r hr)
/-- u, of a multiple -/
theorem Sp.of_mul {c : Int} (c0 : c ≠ 0) (h : Sp w R v) (e : ∀ j, j < w → v j = c * u j) : Sp w R u := .div c0 (.eq h fun j hj => (e j hj).symm)
theorem Sp.comb2 (a b : Int) (h : Sp w R u) (g : Sp w R v) (e : ∀ j, j < w → r j = a * u j + b * v j) : Sp w R r := .eq (.add (.mul a h) (.mul b g)) e
theorem Sp.plain (h : Sp w R v) : Sp w R (plain w v) := by
  obtain ⟨c, c0, e⟩ := plain_mul (w := w) (v := v)
  exact .of_mul c0 h e
theorem Sp.of_plain (h : Sp w R (La.plain w v)) : Sp w R v := by
  obtain ⟨c, c0, e⟩ := plain_mul (w := w) (v := v)
  exact .eq (.mul c h) e
theorem Sp.nil (h : Sp w [] v) : ∀ j, j < w → v j = 0 := fun j hj => h.lin (f := fun v => v j) ⟨fun u v e => e j hj, fun _ _ => rfl, fun _ _ => rfl⟩ (fun r hr => nomatch hr)
/-- at right angles -/
def dot (w : Nat) (u v : Vec) : Int := sumN w fun j => u j * v j
theorem lin_dot (x : Vec) : Lin w fun v => dot w v x := ⟨fun u v e => sumN_congr fun j hj => by rw [e j hj], fun u v => by
  show sumN w _ = sumN w _ + sumN w _
  rw [← sumN_add]
  exact sumN_congr fun j _ => Int.add_mul _ _ _, fun c v => by
  show sumN w _ = c * sumN w _
  rw [← sumN_mul]
  exact sumN_congr fun j _ => Int.mul_assoc _ _ _⟩
theorem Sp.dot {x : Vec} (h : Sp w R v) (z : ∀ r ∈ R, dot w r x = 0) : dot w v x = 0 := h.lin (f := fun v => La.dot w v x) (lin_dot x) z

def Ort (w : Nat) (a b : Vec) : Prop := a (ld w b) = 0 ∧ b (ld w a) = 0
theorem Ort.symm {a b : Vec} (h : Ort w a b) : Ort w b a := ⟨h.2, h.1⟩
structure Rref (w : Nat) (R : List Vec) : Prop where
  nz : ∀ r ∈ R, Nz w r
  prim : ∀ r ∈ R, Prim w r
  ort : R.Pairwise (Ort w)
theorem Rref.perm (h : Rref w R) (p : R.Perm S) : Rref w S := ⟨fun r hr => h.nz r (p.mem_iff.mpr hr), fun r hr => h.prim r (p.mem_iff.mpr hr), (p.pairwise_iff (fun h => Ort.symm h)).mp h.ort⟩
def row (R : List Vec) (i : Nat) : Vec := R.getD i fun _ => 0
def comb (R : List Vec) (c : Nat → Int) : Vec := fun j => sumN R.length fun i => c i * row R i j
theorem row_mem {i : Nat} (h : i < R.length) : row R i ∈ R := by
  unfold row
  rw [List.getD_eq_getElem?_getD, List.getElem?_eq_getElem h]
  exact List.getElem_mem h
theorem mem_row (h : r ∈ R) : ∃ i, i < R.length ∧ row R i = r := by
  obtain ⟨i, hi, e⟩ := List.getElem_of_mem h
  refine ⟨i, hi, ?_⟩
  unfold row
  rw [List.getD_eq_getElem?_getD, List.getElem?_eq_getElem hi]
  exact e
theorem Sp.to_comb (h : Sp w R v) : ∃ N : Int, N ≠ 0 ∧ ∃ c : Nat → Int, ∀ j, j < w → N * v j = comb R c j := by
  induction h with
  | mem h =>
    obtain ⟨i, hi, rfl⟩ := mem_row h
    refine ⟨1, by decide, fun k => if k = i then 1 else 0, fun j _ => ?_⟩
    unfold comb
    rw [sumN_one hi fun k _ ne => by simp only [if_neg ne, Int.zero_mul]]
    simp only [if_pos]
  | eq _ e ih =>
    obtain ⟨N, n0, c, k⟩ := ih
    exact ⟨N, n0, c, fun j hj => by rw [e j hj, k j hj]⟩
  | zero => exact ⟨1, by decide, fun _ => 0, fun j _ => by unfold comb; rw [sumN_zero fun _ _ => Int.zero_mul _]; rfl⟩
  | add _ _ i1 i2 =>
    obtain ⟨N, n0, c, k⟩ := i1
    obtain ⟨M, m0, d, l⟩ := i2
    refine ⟨N * M, Int.mul_ne_zero n0 m0, fun i => M * c i + N * d i, fun j hj => ?_⟩
    have e : comb R (fun i => M * c i + N * d i) j = M * comb R c j + N * comb R d j := by
      unfold comb
      rw [← sumN_mul, ← sumN_mul, ← sumN_add]
      exact sumN_congr fun i _ => by rw [Int.add_mul, Int.mul_assoc, Int.mul_assoc]
    rw [e, ← k j hj, ← l j hj]
    grind
  | mul a _ ih =>
    obtain ⟨N, n0, c, k⟩ := ih
    refine ⟨N, n0, fun i => a * c i, fun j hj => ?_⟩
    have e : comb R (fun i => a * c i) j = a * comb R c j := by
      unfold comb
      rw [← sumN_mul]
      exact sumN_congr fun i _ => by rw [Int.mul_assoc]
    rw [e, ← k j hj]
    grind
  | @div v a a0 _ ih =>
    obtain ⟨N, n0, c, k⟩ := ih
    exact ⟨N * a, Int.mul_ne_zero n0 a0, c, fun j hj => by rw [← k j hj, Int.mul_assoc]⟩
theorem sp_sum {n : Nat} {F : Nat → Vec} (h : ∀ i, i < n → Sp w R (F i)) : Sp w R fun j => sumN n fun i => F i j := by
  induction n with
  | zero => exact .zero
  | succ n ih => exact .add (ih fun i hi => h i (by omega)) (h n (by omega))
theorem sp_comb (c : Nat → Int) : Sp w R (comb R c) := sp_sum fun i hi => .mul (c i) (.mem (row_mem hi))
theorem Rref.at_ (h : Rref w R) {i k : Nat} (hi : i < R.length) (hk : k < R.length) (ne : i ≠ k) : row R i (ld w (row R k)) = 0 := by
  have p := List.pairwise_iff_getElem.mp h.ort
  have e : ∀ {i : Nat} (hi : i < R.length), row R i = R[i] := fun hi => by
    unfold row
    rw [List.getD_eq_getElem?_getD, List.getElem?_eq_getElem hi]
    rfl
  rw [e hi, e hk]
  rcases Nat.lt_or_gt_of_ne ne with q | q
  · exact (p i k hi hk q).1
  · exact (p k i hk hi q).2
/-- what is spanned is told by the leads: with all leads but one at zero, one line -/
theorem Rref.line (h : Rref w R) {k : Nat} (hk : k < R.length) (s : Sp w R v) (z : ∀ i, i < R.length → i ≠ k → v (ld w (row R i)) = 0) {j : Nat} (hj : j < w) : row R k (ld w (row R k)) * v j = v (ld w (row R k)) * row R k j := by
  obtain ⟨N, n0, c, e⟩ := s.to_comb
  have hl : ∀ i, i < R.length → IsLd w (row R i) (ld w (row R i)) := fun i hi => (h.nz _ (row_mem hi)).isLd
  have at_ : ∀ i, i < R.length → N * v (ld w (row R i)) = c i * row R i (ld w (row R i)) := fun i hi => by
    rw [e _ (hl i hi).lt]
    exact sumN_one hi fun m hm ne => by rw [h.at_ hm hi ne, Int.mul_zero]
  have c0 : ∀ i, i < R.length → i ≠ k → c i = 0 := fun i hi ne => by
    have q := at_ i hi
    rw [z i hi ne, Int.mul_zero] at q
    exact (Int.mul_eq_zero.mp q.symm).resolve_right (hl i hi).ne
  have ej : N * v j = c k * row R k j := by
    rw [e j hj]
    exact sumN_one hk fun m hm ne => by rw [c0 m hm ne, Int.zero_mul]
  have ek := at_ k hk
  apply Int.eq_of_mul_eq_mul_left n0
  have a1 : N * (row R k (ld w (row R k)) * v j) = row R k (ld w (row R k)) * (N * v j) := by grind
  have a2 : N * (v (ld w (row R k)) * row R k j) = (N * v (ld w (row R k))) * row R k j := by grind
  rw [a1, a2, ej, ek]
  grind
/-- zero at all leads: zero -/
theorem Rref.zero (h : Rref w R) (s : Sp w R v) (z : ∀ r ∈ R, v (ld w r) = 0) : ∀ j, j < w → v j = 0 := by
  intro j hj
  obtain ⟨N, n0, c, e⟩ := s.to_comb
  have q := e j hj
  unfold comb at q
  rw [sumN_zero fun i hi => ?_] at q
  · exact (Int.mul_eq_zero.mp q).resolve_left n0
  · have hl := (h.nz _ (row_mem hi)).isLd
    have a := e _ hl.lt
    rw [z _ (row_mem hi), Int.mul_zero] at a
    unfold comb at a
    rw [sumN_one hi fun m hm ne => by rw [h.at_ hm hi ne, Int.mul_zero]] at a
    have c0 : c i = 0 := (Int.mul_eq_zero.mp a.symm).resolve_right hl.ne
    rw [c0, Int.zero_mul]

def Indep (w : Nat) : List Vec → Prop
  | [] => True
  | r :: C => ¬ Sp w C r ∧ Indep w C
theorem comb_cons (c : Nat → Int) (j : Nat) : comb (r :: C) c j = c 0 * r j + comb C (fun i => c (i + 1)) j := by
  have key : ∀ n (f : Nat → Int), sumN (n + 1) f = f 0 + sumN n (fun i => f (i + 1)) := by
    intro n
    induction n with
    | zero => intro f; simp [sumN]
    | succ n ih => intro f; rw [sumN, ih]; simp only [sumN]; omega
  unfold comb
  rw [List.length_cons, key]
  rfl
theorem Indep.comb : ∀ {C : List Vec} {c : Nat → Int}, Indep w C → (∀ j, j < w → La.comb C c j = 0) → ∀ i, i < C.length → c i = 0
  | [], _, _, _, i, hi => absurd hi (Nat.not_lt_zero _)
  | r :: C, c, h, z, i, hi => by
    have c0 : c 0 = 0 := by
      apply Decidable.byContradiction
      intro ne
      apply h.1
      refine Sp.of_mul (v := fun j => -1 * La.comb C (fun i => c (i + 1)) j) ne (.mul (-1) (sp_comb _)) fun j hj => ?_
      have q := z j hj
      rw [comb_cons] at q
      show -1 * La.comb C (fun i => c (i + 1)) j = c 0 * r j
      omega
    cases i with
    | zero => exact c0
    | succ i =>
      refine Indep.comb (C := C) (c := fun i => c (i + 1)) h.2 (fun j hj => ?_) i (by simpa using hi)
      have q := z j hj
      rw [comb_cons, c0] at q
      omega
end
end La
-- M3
namespace La
theorem pigeon {f : Nat → Nat} {N M : Nat} (hf : ∀ t, t < N → f t < M) (h : M < N) : ∃ s t, s < t ∧ t < N ∧ f s = f t := by
  apply Classical.byContradiction
  intro no
  have nd : ((List.range N).map f).Nodup := by
    rw [List.nodup_iff_pairwise_ne, List.pairwise_map]
    refine (List.pairwise_lt_range (n := N)).imp_of_mem ?_
    intro a b ha hb lt e
    exact no ⟨a, b, lt, List.mem_range.mp hb, e⟩
  have sub : (List.range N).map f ⊆ List.range M := by
    intro x hx
    obtain ⟨t, ht, rfl⟩ := List.mem_map.mp hx
    exact List.mem_range.mpr (hf t (List.mem_range.mp ht))
  have q := nd.length_le_of_subset sub
  rw [List.length_map, List.length_range, List.length_range] at q
  omega
/-- digits tell the number -/
theorem digits {Y : Nat} (hY : 0 < Y) : ∀ {n s t : Nat}, s < Y ^ n → t < Y ^ n → (∀ j, j < n → s / Y ^ j % Y = t / Y ^ j % Y) → s = t
  | 0, s, t, hs, ht, _ => by simp at hs ht; omega
  | n + 1, s, t, hs, ht, h => by
    have h0 := h 0 (by omega)
    simp only [Nat.pow_zero, Nat.div_one] at h0
    have q : s / Y = t / Y := by
      refine digits (n := n) hY ?_ ?_ fun j hj => ?_
      · rw [Nat.div_lt_iff_lt_mul hY]; rw [Nat.pow_succ] at hs; exact hs
      · rw [Nat.div_lt_iff_lt_mul hY]; rw [Nat.pow_succ] at ht; exact ht
      · have := h (j + 1) (by omega)
        rw [Nat.pow_succ, Nat.mul_comm, ← Nat.div_div_eq_div_mul, ← Nat.div_div_eq_div_mul] at this
        exact this
    rw [← Nat.div_add_mod s Y, ← Nat.div_add_mod t Y, q, h0]
/-- a code of m numbers below M -/
def code (M : Nat) (f : Nat → Nat) : Nat → Nat
  | 0 => 0
  | m + 1 => code M f m * M + f m
theorem code_lt {M : Nat} {f : Nat → Nat} : ∀ {m : Nat}, (∀ i, i < m → f i < M) → code M f m < M ^ m
  | 0, _ => by simp [code]
  | m + 1, h => by
    have a := code_lt (m := m) fun i hi => h i (by omega)
    have b := h m (by omega)
    simp only [code]
    rw [Nat.pow_succ]
    have : (code M f m + 1) * M ≤ M ^ m * M := Nat.mul_le_mul_right _ a
    rw [Nat.succ_mul] at this
    omega
theorem code_inj {M : Nat} {f g : Nat → Nat} : ∀ {m : Nat}, (∀ i, i < m → f i < M) → (∀ i, i < m → g i < M) → code M f m = code M g m → ∀ i, i < m → f i = g i
  | 0, _, _, _, i, hi => by omega
  | m + 1, h, k, e, i, hi => by
    simp only [code] at e
    have a := h m (by omega)
    have b := k m (by omega)
    have e1 : code M f m = code M g m := by
      have x : (code M f m * M + f m) / M = (code M g m * M + g m) / M := by rw [e]
      rw [Nat.mul_comm, Nat.mul_add_div (by omega), Nat.div_eq_of_lt a, Nat.mul_comm, Nat.mul_add_div (by omega), Nat.div_eq_of_lt b] at x
      exact x
    rw [e1] at e
    by_cases q : i = m
    · subst q; omega
    · exact code_inj (m := m) (fun i hi => h i (by omega)) (fun i hi => k i (by omega)) e1 i (by omega)
/-- m equations in m + 1 unknowns have a small solution -/
theorem siegel (m B : Nat) (hB : 0 < B) (A : Nat → Nat → Int) (hA : ∀ i j, i < m → j < m + 1 → (A i j).natAbs ≤ B) :
    ∃ x : Nat → Int, (∃ j, j < m + 1 ∧ x j ≠ 0) ∧ (∀ j, (x j).natAbs ≤ (2 * (m + 1) * B) ^ m) ∧ ∀ i, i < m → sumN (m + 1) (fun j => A i j * x j) = 0 := by
  generalize hX : (2 * (m + 1) * B) ^ m = X
  have X1 : 0 < X := by rw [← hX]; exact Nat.pow_pos (by exact Nat.mul_pos (by omega) hB)
  let dig : Nat → Nat → Nat := fun t j => t / (X + 1) ^ j % (X + 1)
  have dl : ∀ t j, dig t j ≤ X := fun t j => by
    have := Nat.mod_lt (t / (X + 1) ^ j) (show 0 < X + 1 by omega)
    show t / (X + 1) ^ j % (X + 1) ≤ X
    omega
  let val : Nat → Nat → Int := fun t i => sumN (m + 1) fun j => A i j * (dig t j : Int)
  have vb : ∀ t i, i < m → (val t i).natAbs ≤ (m + 1) * (B * X) := fun t i hi => sumN_abs fun j hj => by
    rw [Int.natAbs_mul]
    exact Nat.mul_le_mul (hA i j hi hj) (by have := dl t j; omega)
  let nat : Nat → Nat → Nat := fun t i => (val t i + ((m + 1) * (B * X) : Nat)).toNat
  have nb : ∀ t i, i < m → nat t i < 2 * (m + 1) * B * (X + 1) := fun t i hi => by
    have := vb t i hi
    have e : 2 * (m + 1) * B * (X + 1) = 2 * ((m + 1) * (B * X)) + 2 * ((m + 1) * B) := by grind
    have p : 0 < (m + 1) * B := Nat.mul_pos (by omega) hB
    show (val t i + ((m + 1) * (B * X) : Nat)).toNat < _
    omega
  obtain ⟨s, t, lt, tN, e⟩ := pigeon (f := fun t => code (2 * (m + 1) * B * (X + 1)) (nat t) m) (N := (X + 1) ^ (m + 1)) (M := (2 * (m + 1) * B * (X + 1)) ^ m) (fun t _ => code_lt fun i hi => nb t i hi) (by
    rw [Nat.mul_pow, hX, Nat.pow_succ, Nat.mul_comm ((X + 1) ^ m)]
    exact Nat.mul_lt_mul_of_pos_right (by omega) (Nat.pow_pos (by omega)))
  have ne := code_inj (fun i hi => nb s i hi) (fun i hi => nb t i hi) e
  refine ⟨fun j => (dig s j : Int) - (dig t j : Int), ?_, fun j => ?_, fun i hi => ?_⟩
  · apply Classical.byContradiction
    intro no
    have : s = t := digits (Y := X + 1) (by omega) (n := m + 1) (by omega) tN fun j hj => by
      apply Classical.byContradiction
      intro q
      refine no ⟨j, hj, ?_⟩
      show ((s / (X + 1) ^ j % (X + 1) : Nat) : Int) - ((t / (X + 1) ^ j % (X + 1) : Nat) : Int) ≠ 0
      omega
    omega
  · have a := dl s j
    have b := dl t j
    show ((dig s j : Int) - (dig t j : Int)).natAbs ≤ X
    omega
  · have q := ne i hi
    have a := vb s i hi
    have b := vb t i hi
    have r : val s i = val t i := by
      have : (val s i + ((m + 1) * (B * X) : Nat)).toNat = (val t i + ((m + 1) * (B * X) : Nat)).toNat := q
      omega
    have : sumN (m + 1) (fun j => A i j * ((dig s j : Int) - (dig t j : Int))) = val s i - val t i := by
      show _ = sumN _ _ - sumN _ _
      rw [← sumN_sub]
      exact sumN_congr fun j _ => by rw [Int.mul_sub]
    rw [this, r]
    omega

section
variable {w : Nat} {R S C : List Vec} {u v r : Vec}
def Bd (w B : Nat) (v : Vec) : Prop := ∀ j, j < w → (v j).natAbs ≤ B
/-- rows that span the same -/
def SameSp (w : Nat) (R S : List Vec) : Prop := (∀ r ∈ R, Sp w S r) ∧ ∀ r ∈ S, Sp w R r
theorem SameSp.symm (h : SameSp w R S) : SameSp w S R := ⟨h.2, h.1⟩
theorem SameSp.iff (h : SameSp w R S) : Sp w R v ↔ Sp w S v := ⟨fun x => x.sub h.1, fun x => x.sub h.2⟩
theorem SameSp.trans {T : List Vec} (h : SameSp w R S) (g : SameSp w S T) : SameSp w R T := ⟨fun r hr => (h.1 r hr).sub g.1, fun r hr => (g.2 r hr).sub h.2⟩
theorem SameSp.refl : SameSp w R R := ⟨fun r hr => .mem hr, fun r hr => .mem hr⟩
/-- the bound: the rows come of as many small ones -/
def bnd (k B : Nat) : Nat := k * ((2 * k * B) ^ (k - 1) * B)
theorem Rref.bound (h : Rref w R) {B : Nat} (hB : 0 < B) (e : SameSp w C R) (len : C.length = R.length) (ind : Indep w C) (hb : ∀ c ∈ C, Bd w B c) : ∀ r ∈ R, Bd w (bnd R.length B) r := by
  intro r hr
  obtain ⟨k, hk, rfl⟩ := mem_row hr
  obtain ⟨m, hm⟩ : ∃ m, R.length = m + 1 := ⟨R.length - 1, by omega⟩
  -- the other leads
  let oth : Nat → Nat := fun i => if i < k then i else i + 1
  have oth_lt : ∀ i, i < m → oth i < R.length := fun i hi => by show (if i < k then i else i + 1) < _; split <;> omega
  have isl : ∀ i, i < R.length → IsLd w (row R i) (ld w (row R i)) := fun i hi => (h.nz _ (row_mem hi)).isLd
  obtain ⟨x, ⟨j0, hj0, x0⟩, xb, xz⟩ := siegel m B hB (fun i j => row C j (ld w (row R (oth i)))) (fun i j hi hj => hb _ (row_mem (by omega)) _ (isl _ (oth_lt i hi)).lt)
  have cz : ∀ i, i < R.length → i ≠ k → comb C x (ld w (row R i)) = 0 := fun i hi ne => by
    obtain ⟨i', hi', e'⟩ : ∃ i', i' < m ∧ oth i' = i := by
      by_cases q : i < k
      · exact ⟨i, by omega, by show (if i < k then i else i + 1) = i; rw [if_pos q]⟩
      · exact ⟨i - 1, by omega, by show (if i - 1 < k then i - 1 else i - 1 + 1) = i; rw [if_neg (by omega)]; omega⟩
    have := xz i' hi'
    rw [e'] at this
    unfold comb
    rw [len, hm, ← this]
    exact sumN_congr fun j _ => Int.mul_comm _ _
  have nz : Nz w (comb C x) := by
    apply Classical.byContradiction
    intro no
    exact x0 (ind.comb (not_nz.mp no) j0 (by omega))
  have line := fun j (hj : j < w) => h.line hk ((sp_comb (w := w) (R := C) x).sub e.1) cz hj
  intro j hj
  refine Nat.le_trans (prim_le (h.prim _ (row_mem hk)) nz (isl k hk).ne line hj) ?_
  have : (comb C x j).natAbs ≤ C.length * ((2 * (m + 1) * B) ^ m * B) := sumN_abs fun i hi => by
    rw [Int.natAbs_mul]
    exact Nat.mul_le_mul (xb i) (hb _ (row_mem hi) j hj)
  rw [len, hm] at this
  unfold bnd
  rw [hm]
  exact this
end
end La
-- M4
namespace La
def without (w : Nat) (row other : Vec) (at_ : Nat) : Vec := plain w fun i => row i * other at_ - other i * row at_
def lo1 (w : Nat) (row other : Vec) : Vec := if row (ld w other) ≠ 0 then without w row other (ld w other) else row
def left (w : Nat) (row : Vec) (basis : List Vec) : Vec := plain w (basis.foldl (lo1 w) row)
def ins (w : Nat) (r : Vec) : List Vec → List Vec
  | [] => [r]
  | s :: t => if ld w r ≤ ld w s then r :: s :: t else s :: ins w r t
def srt (w : Nat) (R : List Vec) : List Vec := R.foldr (ins w) []
def withRow (w : Nat) (basis : List Vec) (row : Vec) : List Vec :=
  match lead (left w row basis) w with
  | none => basis
  | some at_ => srt w (basis.map (fun other => if other at_ ≠ 0 then without w other (left w row basis) at_ else other) ++ [left w row basis])
def reduced (w : Nat) (rows : List Vec) : List Vec := rows.foldl (withRow w) []
section
variable {w : Nat} {R S C rows basis : List Vec} {u v r row other : Vec}
theorem ins_perm : (ins w r R).Perm (r :: R) := by
  induction R with
  | nil => exact .refl _
  | cons s t ih =>
    simp only [ins]
    split
    · exact .refl _
    · exact (List.Perm.cons s ih).trans (.swap r s t)
theorem srt_perm : (srt w R).Perm R := by
  induction R with
  | nil => exact .refl _
  | cons s t ih => exact ins_perm.trans (.cons s ih)
theorem ins_mem {x : Vec} : x ∈ ins w r R ↔ x = r ∨ x ∈ R := by rw [ins_perm.mem_iff, List.mem_cons]
theorem srt_sorted : (srt w R).Pairwise fun a b => ld w a ≤ ld w b := by
  induction R with
  | nil => exact .nil
  | cons s t ih =>
    show (ins w s (srt w t)).Pairwise _
    generalize srt w t = T at ih
    induction T with
    | nil => exact .cons (fun _ h => nomatch h) .nil
    | cons a T ih2 =>
      simp only [ins]
      cases ih with
      | cons h1 h2 =>
      split
      · rename_i le
        refine .cons (fun x hx => ?_) (.cons h1 h2)
        rcases List.mem_cons.mp hx with e | e
        · rw [e]; exact le
        · exact Nat.le_trans le (h1 x e)
      · rename_i nle
        refine .cons (fun x hx => ?_) (ih2 h2)
        rcases ins_mem.mp hx with e | e
        · rw [e]; omega
        · exact h1 x e
/-- what a row is without another: zero at the place, a combination else -/
theorem wo_eq {at_ : Nat} : ∃ c : Int, c ≠ 0 ∧ ∀ j, j < w → row j * other at_ - other j * row at_ = c * without w row other at_ j := plain_mul
theorem wo_zero {at_ j : Nat} (hj : j < w) (e : row j * other at_ - other j * row at_ = 0) : without w row other at_ j = 0 := (plain_iff hj).mpr e
theorem wo_at {at_ : Nat} (h : at_ < w) : without w row other at_ at_ = 0 := wo_zero h (by rw [Int.mul_comm]; omega)
theorem wo_both {at_ j : Nat} (hj : j < w) (h1 : row j = 0) (h2 : other j = 0) : without w row other at_ j = 0 := wo_zero hj (by rw [h1, h2]; omega)
theorem wo_sp {at_ : Nat} (h1 : Sp w R row) (h2 : Sp w R other) : Sp w R (without w row other at_) :=
  Sp.plain (.comb2 (other at_) (- row at_) h1 h2 fun j _ => by show row j * other at_ - other j * row at_ = _; grind)
/-- and back -/
theorem wo_back {at_ : Nat} (h0 : other at_ ≠ 0) (h1 : Sp w R (without w row other at_)) (h2 : Sp w R other) : Sp w R row := by
  have h : Sp w R fun j => row j * other at_ - other j * row at_ := h1.of_plain
  refine Sp.of_mul (v := fun j => other at_ * row j) h0 ?_ (fun j _ => rfl)
  exact .comb2 1 (row at_) h h2 fun j _ => by show other at_ * row j = _; grind
structure LoOk (w : Nat) (R P : List Vec) (row ρ : Vec) : Prop where
  zero : ∀ b ∈ P, ρ (ld w b) = 0
  to_ : Sp w (row :: R) ρ
  back : Sp w (ρ :: R) row
theorem lo1_ok {P : List Vec} {ρ : Vec} (h : LoOk w R P row ρ) (nz : Nz w other) (hP : ∀ b ∈ P, Nz w b ∧ other (ld w b) = 0) (ho : other ∈ R) : LoOk w R (P ++ [other]) row (lo1 w ρ other) := by
  unfold lo1
  by_cases e : ρ (ld w other) = 0
  · rw [if_neg (by simp [e])]
    refine ⟨fun b hb => ?_, h.to_, h.back⟩
    rcases List.mem_append.mp hb with q | q
    · exact h.zero b q
    · rw [List.mem_singleton.mp q, e]
  · rw [if_pos e]
    refine ⟨fun b hb => ?_, wo_sp h.to_ (.mem (List.mem_cons_of_mem _ ho)), ?_⟩
    · rcases List.mem_append.mp hb with q | q
      · exact wo_both (hP b q).1.isLd.lt (h.zero b q) (hP b q).2
      · rw [List.mem_singleton.mp q]; exact wo_at nz.isLd.lt
    · refine h.back.sub fun x hx => ?_
      rcases List.mem_cons.mp hx with q | q
      · rw [q]
        exact wo_back nz.isLd.ne (.mem List.mem_cons_self) (.mem (List.mem_cons_of_mem _ ho))
      · exact .mem (List.mem_cons_of_mem _ q)
theorem lo_ok (h : Rref w R) : ∀ {T P : List Vec} {ρ : Vec}, P ++ T = R → LoOk w R P row ρ → LoOk w R R row (T.foldl (lo1 w) ρ)
  | [], P, ρ, e, k => by rw [List.append_nil] at e; rw [← e] at k ⊢; exact k
  | t :: T, P, ρ, e, k => by
    rw [List.foldl_cons]
    have ht : t ∈ R := by rw [← e]; exact List.mem_append_right _ List.mem_cons_self
    have ort := h.ort
    rw [← e] at ort
    refine lo_ok h (P := P ++ [t]) (by rw [List.append_assoc]; exact e) (lo1_ok k (h.nz t ht) (fun b hb => ⟨h.nz b (by rw [← e]; exact List.mem_append_left _ hb), ?_⟩) ht)
    exact ((List.pairwise_append.mp ort).2.2 b hb t List.mem_cons_self).2
theorem left_ok (h : Rref w R) : LoOk w R R row (left w row R) := by
  have k := lo_ok (row := row) h (T := R) (P := []) (ρ := row) rfl ⟨fun _ hb => (nomatch hb), .mem List.mem_cons_self, .mem List.mem_cons_self⟩
  refine ⟨fun b hb => (plain_iff (h.nz b hb).isLd.lt).mpr (k.zero b hb), Sp.plain k.to_, k.back.sub fun x hx => ?_⟩
  rcases List.mem_cons.mp hx with q | q
  · rw [q]; exact Sp.of_plain (.mem List.mem_cons_self)
  · exact .mem (List.mem_cons_of_mem _ q)
/-- what a basis is of the rows so far -/
structure Red (w : Nat) (rows basis : List Vec) : Prop where
  rref : Rref w basis
  same : SameSp w rows basis
  few : ∃ C : List Vec, C.length = basis.length ∧ (∀ c ∈ C, c ∈ rows.map (plain w)) ∧ Indep w C ∧ SameSp w C basis
theorem red_nil : Red w [] [] := ⟨⟨fun _ h => (nomatch h), fun _ h => (nomatch h), .nil⟩, .refl, [], rfl, fun _ h => (nomatch h), trivial, .refl⟩
theorem sp_cons (h : Sp w R r) : SameSp w (r :: R) R := ⟨fun x hx => by
  rcases List.mem_cons.mp hx with q | q
  · rw [q]; exact h
  · exact .mem q, fun x hx => .mem (List.mem_cons_of_mem _ hx)⟩
theorem same_append (h : SameSp w rows basis) : SameSp w (rows ++ [row]) (row :: basis) := ⟨fun x hx => by
  rcases List.mem_append.mp hx with q | q
  · exact (h.1 x q).mono fun r hr => List.mem_cons_of_mem _ hr
  · rw [List.mem_singleton.mp q]; exact .mem List.mem_cons_self, fun x hx => by
  rcases List.mem_cons.mp hx with q | q
  · rw [q]; exact .mem (List.mem_append_right _ (List.mem_singleton.mpr rfl))
  · exact (h.2 x q).mono fun r hr => List.mem_append_left _ hr⟩
theorem same_cons (h : SameSp w R S) : SameSp w (r :: R) (r :: S) := ⟨fun x hx => by
  rcases List.mem_cons.mp hx with q | q
  · rw [q]; exact .mem List.mem_cons_self
  · exact (h.1 x q).mono fun r hr => List.mem_cons_of_mem _ hr, fun x hx => by
  rcases List.mem_cons.mp hx with q | q
  · rw [q]; exact .mem List.mem_cons_self
  · exact (h.2 x q).mono fun r hr => List.mem_cons_of_mem _ hr⟩
theorem same_perm (p : R.Perm S) : SameSp w R S := ⟨fun _ h => .mem (p.mem_iff.mp h), fun _ h => .mem (p.mem_iff.mpr h)⟩
/-- other, cleared at the lead of the rest, keeps its lead -/
theorem clear_lead {rest : Vec} {at_ : Nat} (nz : Nz w other) (hr : IsLd w rest at_) (z : rest (ld w other) = 0) (ne : other at_ ≠ 0) : IsLd w (without w other rest at_) (ld w other) := by
  have hl := nz.isLd
  refine ⟨hl.lt, ?_, fun j hj => ?_⟩
  · intro q
    have q2 := (plain_iff hl.lt).mp q
    rw [z, Int.zero_mul, Int.sub_zero] at q2
    exact (Int.mul_eq_zero.mp q2).elim hl.ne hr.ne
  · have le : ld w other ≤ at_ := by
      apply Classical.byContradiction
      intro nle
      exact ne (hl.bf at_ (by omega))
    have := hl.lt
    exact wo_both (by omega) (hl.bf j hj) (hr.bf j (by omega))
theorem withRow_ok (h : Red w rows basis) : Red w (rows ++ [row]) (withRow w basis row) := by
  have L := left_ok (row := row) h.rref
  unfold withRow
  cases e : lead (left w row basis) w with
  | none =>
    have sp : Sp w basis row := L.back.sub fun x hx => by
      rcases List.mem_cons.mp hx with q | q
      · rw [q]; exact .eq .zero (lead_none.mp e)
      · exact .mem q
    obtain ⟨C, a, b, c, d⟩ := h.few
    exact ⟨h.rref, (same_append h.same).trans (sp_cons sp), C, a, fun x hx => by rw [List.map_append]; exact List.mem_append_left _ (b x hx), c, d⟩
  | some at_ =>
    have hr := isLd_iff.mp e
    generalize hrest : left w row basis = rest at L hr e
    have nzr := hr.nz
    let f : Vec → Vec := fun other => if other at_ ≠ 0 then without w other rest at_ else other
    -- the cleared rows
    have fl : ∀ b ∈ basis, IsLd w (f b) (ld w b) := fun b hb => by
      show IsLd w (if b at_ ≠ 0 then without w b rest at_ else b) _
      split
      · rename_i ne; exact clear_lead (h.rref.nz b hb) hr (L.zero b hb) ne
      · exact (h.rref.nz b hb).isLd
    have fat : ∀ b, f b at_ = 0 := fun b => by
      show (if b at_ ≠ 0 then without w b rest at_ else b) at_ = 0
      split
      · exact wo_at hr.lt
      · rename_i q; exact Classical.not_not.mp q
    have fz : ∀ b ∈ basis, ∀ c ∈ basis, b (ld w c) = 0 → f b (ld w c) = 0 := fun b hb c hc z => by
      show (if b at_ ≠ 0 then without w b rest at_ else b) _ = 0
      split
      · exact wo_both (h.rref.nz c hc).isLd.lt z (L.zero c hc)
      · exact z
    have rref : Rref w (basis.map f ++ [rest]) := by
      refine ⟨fun x hx => ?_, fun x hx => ?_, ?_⟩
      · rcases List.mem_append.mp hx with q | q
        · obtain ⟨b, hb, rfl⟩ := List.mem_map.mp q
          exact (fl b hb).nz
        · rw [List.mem_singleton.mp q]; exact nzr
      · rcases List.mem_append.mp hx with q | q
        · obtain ⟨b, hb, rfl⟩ := List.mem_map.mp q
          show Prim w (if b at_ ≠ 0 then without w b rest at_ else b)
          split
          · rename_i ne
            have := (clear_lead (h.rref.nz b hb) hr (L.zero b hb) ne).nz
            exact prim_plain (nz_plain.mp this)
          · exact h.rref.prim b hb
        · rw [List.mem_singleton.mp q, ← hrest]
          exact prim_plain (nz_plain.mp (by rw [← hrest] at nzr; exact nzr))
      · refine List.pairwise_append.mpr ⟨?_, .cons (fun _ h => nomatch h) .nil, fun x hx y hy => ?_⟩
        · rw [List.pairwise_map]
          refine h.rref.ort.imp_of_mem ?_
          intro a b ha hb o
          exact ⟨by rw [(fl b hb).ld]; exact fz a ha b hb o.1, by rw [(fl a ha).ld]; exact fz b hb a ha o.2⟩
        · obtain ⟨b, hb, rfl⟩ := List.mem_map.mp hx
          rw [List.mem_singleton.mp hy]
          exact ⟨by rw [hr.ld]; exact fat b, by rw [(fl b hb).ld]; exact L.zero b hb⟩
    have sameR : SameSp w (row :: basis) (basis.map f ++ [rest]) := by
      have hin : rest ∈ basis.map f ++ [rest] := List.mem_append_right _ (List.mem_singleton.mpr rfl)
      have hb1 : ∀ b ∈ basis, Sp w (basis.map f ++ [rest]) b := fun b hb => by
        have q : f b ∈ basis.map f ++ [rest] := List.mem_append_left _ (List.mem_map.mpr ⟨b, hb, rfl⟩)
        by_cases e : b at_ = 0
        · have : f b = b := by show (if b at_ ≠ 0 then _ else b) = b; rw [if_neg (by simp [e])]
          rw [this] at q
          exact .mem q
        · have : f b = without w b rest at_ := by show (if b at_ ≠ 0 then _ else b) = _; rw [if_pos e]
          rw [this] at q
          exact wo_back hr.ne (.mem q) (.mem hin)
      refine ⟨fun x hx => ?_, fun x hx => ?_⟩
      · rcases List.mem_cons.mp hx with q | q
        · rw [q]
          refine L.back.sub fun y hy => ?_
          rcases List.mem_cons.mp hy with q | q
          · rw [q]; exact .mem hin
          · exact hb1 y q
        · exact hb1 x q
      · rcases List.mem_append.mp hx with q | q
        · obtain ⟨b, hb, rfl⟩ := List.mem_map.mp q
          show Sp w _ (if b at_ ≠ 0 then without w b rest at_ else b)
          split
          · exact wo_sp (.mem (List.mem_cons_of_mem _ hb)) L.to_
          · exact .mem (List.mem_cons_of_mem _ hb)
        · rw [List.mem_singleton.mp q]; exact L.to_
    have sp := srt_perm (w := w) (R := basis.map f ++ [rest])
    have sameS := sameR.trans (same_perm sp.symm)
    refine ⟨rref.perm sp.symm, (same_append h.same).trans sameS, ?_⟩
    obtain ⟨C, a, b, c, d⟩ := h.few
    have notin : ¬ Sp w basis row := fun s => by
      have s2 : Sp w basis rest := L.to_.sub fun x hx => by
        rcases List.mem_cons.mp hx with q | q
        · rw [q]; exact s
        · exact .mem q
      exact hr.ne (h.rref.zero s2 L.zero at_ hr.lt)
    refine ⟨plain w row :: C, ?_, fun x hx => ?_, ⟨fun s => notin ((d.iff.mp s).of_plain), c⟩, ?_⟩
    · show C.length + 1 = (srt w (basis.map f ++ [rest])).length
      rw [sp.length_eq, List.length_append, List.length_map, a]
      rfl
    · rw [List.map_append]
      rcases List.mem_cons.mp hx with q | q
      · rw [q]; exact List.mem_append_right _ (List.mem_singleton.mpr rfl)
      · exact List.mem_append_left _ (b x q)
    · refine SameSp.trans ?_ sameS
      refine SameSp.trans (S := row :: C) ?_ (same_cons d)
      refine ⟨fun x hx => ?_, fun x hx => ?_⟩
      · rcases List.mem_cons.mp hx with q | q
        · rw [q]; exact Sp.plain (.mem List.mem_cons_self)
        · exact .mem (List.mem_cons_of_mem _ q)
      · rcases List.mem_cons.mp hx with q | q
        · rw [q]; exact Sp.of_plain (.mem List.mem_cons_self)
        · exact .mem (List.mem_cons_of_mem _ q)
theorem red_fold : ∀ {T P : List Vec} {basis : List Vec}, Red w P basis → Red w (P ++ T) (T.foldl (withRow w) basis)
  | [], P, basis, h => by rw [List.append_nil]; exact h
  | t :: T, P, basis, h => by
    rw [List.foldl_cons]
    have := red_fold (T := T) (withRow_ok (row := t) h)
    rw [List.append_assoc] at this
    exact this
theorem reduced_ok : Red w rows (reduced w rows) := red_fold (P := []) red_nil
/-- the bound of a basis -/
theorem Red.bound (h : Red w rows basis) {B : Nat} (hB : 0 < B) (hb : ∀ r ∈ rows, Bd w B (plain w r)) : ∀ r ∈ basis, Bd w (bnd basis.length B) r := by
  obtain ⟨C, a, b, c, d⟩ := h.few
  refine h.rref.bound hB d a c fun x hx => ?_
  obtain ⟨r, hr, rfl⟩ := List.mem_map.mp (b x hx)
  exact hb r hr
end
end La
-- M5
namespace La
def upd (v : Vec) (i : Nat) (x : Int) : Vec := fun j => if j = i then x else v j
/-- a vector at right angles, of one free place -/
structure IsNull (w : Nat) (R : List Vec) (f : Nat) (b : Int) (n : Vec) : Prop where
  free : n f = b
  at_ : ∀ r ∈ R, n (ld w r) * r (ld w r) = - (r f) * b
  else_ : ∀ j, j < w → j ≠ f → (∀ r ∈ R, j ≠ ld w r) → n j = 0
def isFree (w : Nat) (R : List Vec) (f : Nat) : Bool := decide (f ∉ R.map (ld w))
section
variable {w : Nat} {R S C rows basis : List Vec} {u v r other x : Vec} {f : Nat} {b : Int}
theorem isFree_iff : isFree w R f = true ↔ ∀ r ∈ R, f ≠ ld w r := by
  unfold isFree
  rw [decide_eq_true_iff]
  constructor
  · intro h r hr e
    exact h (e ▸ List.mem_map.mpr ⟨r, hr, rfl⟩)
  · intro h hm
    obtain ⟨r, hr, e⟩ := List.mem_map.mp hm
    exact h r hr e.symm
theorem Rref.lead_inj (h : Rref w R) {i k : Nat} (hi : i < R.length) (hk : k < R.length) (e : ld w (row R i) = ld w (row R k)) : i = k := by
  apply Classical.byContradiction
  intro ne
  have := h.at_ hi hk ne
  rw [← e] at this
  exact (h.nz _ (row_mem hi)).isLd.ne this
theorem Rref.zero_at (h : Rref w R) {a c : Vec} (ha : a ∈ R) (hc : c ∈ R) (ne : ld w a ≠ ld w c) : a (ld w c) = 0 := by
  obtain ⟨i, hi, rfl⟩ := mem_row ha
  obtain ⟨k, hk, rfl⟩ := mem_row hc
  exact h.at_ hi hk fun e => ne (by rw [e])
theorem Rref.lead_eq (h : Rref w R) {a c : Vec} (ha : a ∈ R) (hc : c ∈ R) (e : ld w a = ld w c) : a = c := by
  obtain ⟨i, hi, rfl⟩ := mem_row ha
  obtain ⟨k, hk, rfl⟩ := mem_row hc
  rw [h.lead_inj hi hk e]
theorem Rref.leads_nodup (h : Rref w R) : R.Pairwise fun a c => ld w a ≠ ld w c := h.ort.imp_of_mem fun ha hc o e => by
  have := o.1
  rw [← e] at this
  exact (h.nz _ ha).isLd.ne this
/-- a row of the basis, times a vector: its lead and the free places -/
theorem Rref.dot_eq (h : Rref w R) (hr : r ∈ R) : dot w r x = r (ld w r) * x (ld w r) + sumN w fun f => if isFree w R f then r f * x f else 0 := by
  have hl := (h.nz r hr).isLd
  have e : dot w r x - (sumN w fun f => if isFree w R f then r f * x f else 0) = r (ld w r) * x (ld w r) := by
    unfold dot
    rw [← sumN_sub, sumN_one hl.lt fun j hj ne => ?_]
    · rw [if_neg]
      · omega
      · intro z
        exact isFree_iff.mp z r hr rfl
    · by_cases q : isFree w R j = true
      · rw [if_pos q]; omega
      · rw [if_neg q]
        have : ∃ c ∈ R, j = ld w c := by
          apply Classical.byContradiction
          intro no
          exact q (isFree_iff.mpr fun c hc e => no ⟨c, hc, e⟩)
        obtain ⟨c, hc, e⟩ := this
        rw [e, h.zero_at hr hc (fun z => ne (by rw [e, z])), Int.zero_mul]
        rfl
  omega
theorem IsNull.orth {n : Vec} (h : Rref w R) (hf : f < w) (fr : isFree w R f = true) (k : IsNull w R f b n) : ∀ r ∈ R, dot w r n = 0 := fun r hr => by
  rw [h.dot_eq hr, sumN_one hf fun j hj ne => ?_]
  · rw [if_pos fr, k.free, Int.mul_comm, k.at_ r hr, Int.neg_mul]
    omega
  · by_cases q : isFree w R j = true
    · rw [if_pos q, k.else_ j hj ne (isFree_iff.mp q), Int.mul_zero]
    · rw [if_neg q]
/-- they span all that is at right angles -/
theorem null_span (h : Rref w R) (b0 : b ≠ 0) {n : Nat → Vec} (k : ∀ f, f < w → isFree w R f = true → IsNull w R f b (n f)) (hS : ∀ f, f < w → isFree w R f = true → n f ∈ S) (hx : ∀ r ∈ R, dot w r x = 0) : Sp w S x := by
  have s : Sp w S fun j => sumN w fun f => (fun j => (if isFree w R f then x f else 0) * n f j) j := sp_sum fun f hf => by
    by_cases q : isFree w R f = true
    · exact .mul _ (.mem (hS f hf q))
    · simp only [q]
      exact .eq .zero fun j _ => by simp
  refine Sp.of_mul b0 s fun j hj => ?_
  show (sumN w fun f => (if isFree w R f then x f else 0) * n f j) = b * x j
  by_cases q : isFree w R j = true
  · rw [sumN_one hj fun f hf ne => ?_]
    · rw [if_pos q, (k j hj q).free, Int.mul_comm]
    · by_cases q2 : isFree w R f = true
      · rw [(k f hf q2).else_ j hj (fun e => ne e.symm) (isFree_iff.mp q), Int.mul_zero]
      · rw [if_neg q2, Int.zero_mul]
  · have : ∃ r ∈ R, j = ld w r := by
      apply Classical.byContradiction
      intro no
      exact q (isFree_iff.mpr fun c hc e => no ⟨c, hc, e⟩)
    obtain ⟨r, hr, rfl⟩ := this
    have hl := (h.nz r hr).isLd
    have d := hx r hr
    rw [h.dot_eq hr] at d
    apply Int.eq_of_mul_eq_mul_left hl.ne
    rw [← sumN_mul]
    have e : (sumN w fun f => r (ld w r) * ((if isFree w R f then x f else 0) * n f (ld w r))) = sumN w fun f => -b * (if isFree w R f then r f * x f else 0) := sumN_congr fun f hf => by
      by_cases q2 : isFree w R f = true
      · have a := (k f hf q2).at_ r hr
        rw [if_pos q2, if_pos q2]
        grind
      · rw [if_neg q2, if_neg q2]; simp
    rw [e, sumN_mul]
    grind
/-- a primitive one is small -/
theorem null_bound (h : Rref w R) {B : Nat} (hB : 0 < B) (e : SameSp w C R) (len : C.length = R.length) (hb : ∀ c ∈ C, Bd w B c) {p : Vec} (hp : Prim w p) (nz : Nz w p) (hf : f < w) (fr : isFree w R f = true) (orth : ∀ r ∈ R, dot w r p = 0)
    (el : ∀ j, j < w → j ≠ f → isFree w R j = true → p j = 0) : Bd w ((2 * (R.length + 1) * B) ^ R.length) p := by
  generalize hm : R.length = m at len ⊢
  let pos : Nat → Nat := fun i => if i < m then ld w (La.row R i) else f
  have isl : ∀ i, i < m → IsLd w (La.row R i) (ld w (La.row R i)) := fun i hi => (h.nz _ (row_mem (by omega))).isLd
  have pw : ∀ i, pos i < w := fun i => by
    show (if i < m then ld w (La.row R i) else f) < w
    split
    · rename_i q; exact (isl i q).lt
    · exact hf
  have frm : ∀ i, i < m → f ≠ ld w (La.row R i) := fun i hi => isFree_iff.mp fr _ (row_mem (by omega))
  have pm : pos m = f := by show (if m < m then _ else f) = f; rw [if_neg (by omega)]
  have pl : ∀ i, i < m → pos i = ld w (La.row R i) := fun i hi => by show (if i < m then _ else f) = _; rw [if_pos hi]
  have inj : ∀ i k, i < m + 1 → k < m + 1 → pos i = pos k → i = k := fun i k hi hk q => by
    by_cases i1 : i = m
    · by_cases k1 : k = m
      · omega
      · rw [i1, pm, pl k (by omega)] at q
        exact absurd q (frm k (by omega))
    · by_cases k1 : k = m
      · rw [k1, pm, pl i (by omega)] at q
        exact absurd q.symm (frm i (by omega))
      · rw [pl i (by omega), pl k (by omega)] at q
        exact h.lead_inj (by omega) (by omega) q
  obtain ⟨c, ⟨j0, hj0, c0⟩, cb, cz⟩ := siegel m B hB (fun i j => La.row C i (pos j)) (fun i j hi hj => hb _ (row_mem (by omega)) _ (pw j))
  let y : Vec := fun col => sumN (m + 1) fun j => if pos j = col then c j else 0
  have yp : ∀ k, k < m + 1 → y (pos k) = c k := fun k hk => by
    show (sumN (m + 1) fun j => if pos j = pos k then c j else 0) = c k
    rw [sumN_one hk fun j hj ne => if_neg fun q => ne (inj j k hj hk q), if_pos rfl]
  have ye : ∀ j, (∀ k, k < m + 1 → pos k ≠ j) → y j = 0 := fun j hj => sumN_zero fun k hk => if_neg (hj k hk)
  have dy : ∀ i, i < m → dot w (La.row C i) y = 0 := fun i hi => by
    rw [← cz i hi]
    show (sumN w fun col => La.row C i col * sumN (m + 1) fun j => if pos j = col then c j else 0) = _
    have e1 : (sumN w fun col => La.row C i col * sumN (m + 1) fun j => if pos j = col then c j else 0) = sumN w fun col => sumN (m + 1) fun j => La.row C i col * (if pos j = col then c j else 0) := sumN_congr fun col _ => sumN_mul.symm
    rw [e1, sumN_comm]
    refine sumN_congr fun j hj => ?_
    rw [sumN_one (pw j) fun col _ ne => by rw [if_neg (fun q => ne q.symm), Int.mul_zero], if_pos rfl]
  have oy : ∀ r ∈ R, dot w r y = 0 := fun r hr => (e.2 r hr).dot fun x hx => by
    obtain ⟨i, hi, rfl⟩ := mem_row hx
    exact dy i (by omega)
  have nzy : Nz w y := ⟨pos j0, pw j0, by rw [yp j0 hj0]; exact c0⟩
  have onef : ∀ (z : Vec), (∀ r ∈ R, dot w r z = 0) → (∀ j, j < w → j ≠ f → isFree w R j = true → z j = 0) → ∀ r ∈ R, r (ld w r) * z (ld w r) + r f * z f = 0 := fun z oz ez r hr => by
    have d := oz r hr
    rw [h.dot_eq hr, sumN_one hf fun j hj ne => ?_, if_pos fr] at d
    · exact d
    · by_cases q : isFree w R j = true
      · rw [if_pos q, ez j hj ne q, Int.mul_zero]
      · rw [if_neg q]
  have ely : ∀ j, j < w → j ≠ f → isFree w R j = true → y j = 0 := fun j hj ne q => ye j fun k hk e => by
    by_cases k1 : k = m
    · rw [k1, pm] at e; exact ne e.symm
    · rw [pl k (by omega)] at e
      exact isFree_iff.mp q _ (row_mem (by omega)) e.symm
  have py := onef y oy ely
  have pp := onef p orth el
  have pf : p f ≠ 0 := by
    intro z
    obtain ⟨j, hj, ne⟩ := nz
    apply ne
    by_cases q : isFree w R j = true
    · by_cases q2 : j = f
      · rw [q2, z]
      · exact el j hj q2 q
    · have : ∃ r ∈ R, j = ld w r := by
        apply Classical.byContradiction
        intro no
        exact q (isFree_iff.mpr fun c hc e => no ⟨c, hc, e⟩)
      obtain ⟨r, hr, rfl⟩ := this
      have := pp r hr
      rw [z, Int.mul_zero, Int.add_zero] at this
      exact (Int.mul_eq_zero.mp this).resolve_left (h.nz r hr).isLd.ne
  have line : ∀ j, j < w → p f * y j = y f * p j := fun j hj => by
    by_cases q : isFree w R j = true
    · by_cases q2 : j = f
      · rw [q2, Int.mul_comm]
      · rw [el j hj q2 q, ely j hj q2 q, Int.mul_zero, Int.mul_zero]
    · have : ∃ r ∈ R, j = ld w r := by
        apply Classical.byContradiction
        intro no
        exact q (isFree_iff.mpr fun c hc e => no ⟨c, hc, e⟩)
      obtain ⟨r, hr, rfl⟩ := this
      have a := pp r hr
      have b := py r hr
      apply Int.eq_of_mul_eq_mul_left (h.nz r hr).isLd.ne
      grind
  intro j hj
  refine Nat.le_trans (prim_le hp nzy pf line hj) ?_
  by_cases q : ∃ k, k < m + 1 ∧ pos k = j
  · obtain ⟨k, hk, rfl⟩ := q
    rw [yp k hk]
    exact cb k
  · rw [ye j fun k hk e => q ⟨k, hk, e⟩]
    exact Nat.zero_le _

theorem upd_off {g : Vec → Int} : ∀ {T : List Vec} {s : Vec} {j : Nat}, (∀ r ∈ T, j ≠ ld w r) → T.foldl (fun s r => upd s (ld w r) (g r)) s j = s j
  | [], _, _, _ => rfl
  | t :: T, s, j, h => by
    rw [List.foldl_cons, upd_off fun r hr => h r (List.mem_cons_of_mem _ hr)]
    exact if_neg (h t List.mem_cons_self)
theorem upd_on {g : Vec → Int} : ∀ {T : List Vec} {s : Vec} {r : Vec}, r ∈ T → T.Pairwise (fun a c => ld w a ≠ ld w c) → T.foldl (fun s r => upd s (ld w r) (g r)) s (ld w r) = g r
  | [], _, _, h, _ => nomatch h
  | t :: T, s, r, h, p => by
    rw [List.foldl_cons]
    cases p with
    | cons p1 p2 =>
    by_cases hT : r ∈ T
    · exact upd_on hT p2
    · rcases List.mem_cons.mp h with q | q
      · subst q
        rw [upd_off fun x hx => p1 x hx]
        exact if_pos rfl
      · exact absurd q hT
theorem null_of {g : Vec → Int} {s : Vec} (h : Rref w R) (hf : isFree w R f = true) (g1 : ∀ r ∈ R, g r * r (ld w r) = - (r f) * b) (s1 : s f = b) (s2 : ∀ j, j < w → j ≠ f → s j = 0) : IsNull w R f b (R.foldl (fun s r => upd s (ld w r) (g r)) s) := by
  refine ⟨?_, fun r hr => ?_, fun j hj ne z => ?_⟩
  · rw [upd_off (isFree_iff.mp hf), s1]
  · rw [upd_on hr h.leads_nodup]; exact g1 r hr
  · rw [upd_off z]; exact s2 j hj ne
def botP (w : Nat) (R : List Vec) : Int := R.foldl (fun b r => (b * r (ld w r)).fdiv (gcdI b (r (ld w r)))) 1
def nullP (w : Nat) (R : List Vec) (b : Int) (f : Nat) : Vec := R.foldl (fun s r => upd s (ld w r) ((-(r f) * b).fdiv (r (ld w r)))) fun at_ => if at_ = f then b else 0
def frees (w : Nat) (R : List Vec) : List Nat := (List.range w).filter (isFree w R)
def founds (w : Nat) (R : List Vec) : List Vec := (frees w R).map (nullP w R (botP w R))
def nulls (w : Nat) (rows : List Vec) : List Vec := reduced w (founds w (reduced w rows))
def botL (w : Nat) (R : List Vec) : Int := R.foldl (fun b r => b * r (ld w r)) 1
def nullL (w : Nat) (R : List Vec) (b : Int) (f : Nat) : Vec := R.foldl (fun s r => upd s (ld w r) (0 - r f * b.fdiv (r (ld w r)))) (upd (fun _ => 0) f b)
def foundsL (w : Nat) (R : List Vec) : List Vec := (frees w R).map (nullL w R (botL w R))
theorem lcm_ok {a l : Int} (a0 : a ≠ 0) (l0 : l ≠ 0) : (a * l).fdiv (gcdI a l) ≠ 0 ∧ a ∣ (a * l).fdiv (gcdI a l) ∧ l ∣ (a * l).fdiv (gcdI a l) ∧ ((a * l).fdiv (gcdI a l)).natAbs ≤ a.natAbs * l.natAbs := by
  have g0 : gcdI a l ≠ 0 := by
    unfold gcdI
    have := Int.gcd_ne_zero_left (b := l) a0
    omega
  obtain ⟨x, hx⟩ : gcdI a l ∣ a := Int.gcd_dvd_left _ _
  obtain ⟨y, hy⟩ : gcdI a l ∣ l := Int.gcd_dvd_right _ _
  have e : (a * l).fdiv (gcdI a l) = a * y := by
    apply Int.eq_of_mul_eq_mul_left g0
    rw [Int.mul_fdiv_cancel' ⟨x * l, by rw [← Int.mul_assoc, ← hx]⟩]
    rw [← Int.mul_assoc, Int.mul_comm (gcdI a l) a, Int.mul_assoc, ← hy]
  have y0 : y ≠ 0 := by rintro rfl; rw [Int.mul_zero] at hy; exact l0 hy
  have e2 : a * y = l * x := by
    apply Int.eq_of_mul_eq_mul_left g0
    rw [← Int.mul_assoc, Int.mul_comm (gcdI a l) a, Int.mul_assoc, ← hy, ← Int.mul_assoc, Int.mul_comm (gcdI a l) l, Int.mul_assoc, ← hx, Int.mul_comm]
  rw [e]
  refine ⟨Int.mul_ne_zero a0 y0, Int.dvd_mul_right _ _, by rw [e2]; exact Int.dvd_mul_right _ _, ?_⟩
  rw [Int.natAbs_mul]
  refine Nat.mul_le_mul_left _ ?_
  rw [show l.natAbs = (gcdI a l).natAbs * y.natAbs from by rw [← Int.natAbs_mul, ← hy]]
  exact Nat.le_mul_of_pos_left _ (by omega)
theorem botP_fold : ∀ {T : List Vec} {a : Int}, (∀ r ∈ T, r (ld w r) ≠ 0) → a ≠ 0 → (T.foldl (fun b r => (b * r (ld w r)).fdiv (gcdI b (r (ld w r)))) a) ≠ 0 ∧ a ∣ (T.foldl (fun b r => (b * r (ld w r)).fdiv (gcdI b (r (ld w r)))) a) ∧ ∀ r ∈ T, r (ld w r) ∣ (T.foldl (fun b r => (b * r (ld w r)).fdiv (gcdI b (r (ld w r)))) a)
  | [], a, _, a0 => ⟨a0, Int.dvd_refl a, fun _ h => nomatch h⟩
  | t :: T, a, h, a0 => by
    rw [List.foldl_cons]
    obtain ⟨x1, x2, x3, _⟩ := lcm_ok a0 (h t List.mem_cons_self)
    obtain ⟨y1, y2, y3⟩ := botP_fold (T := T) (fun r hr => h r (List.mem_cons_of_mem _ hr)) x1
    refine ⟨y1, Int.dvd_trans x2 y2, fun r hr => ?_⟩
    rcases List.mem_cons.mp hr with q | q
    · rw [q]; exact Int.dvd_trans x3 y2
    · exact y3 r q
theorem botL_fold : ∀ {T : List Vec} {a : Int}, (∀ r ∈ T, r (ld w r) ≠ 0) → a ≠ 0 → (T.foldl (fun b r => b * r (ld w r)) a) ≠ 0 ∧ a ∣ (T.foldl (fun b r => b * r (ld w r)) a) ∧ ∀ r ∈ T, r (ld w r) ∣ (T.foldl (fun b r => b * r (ld w r)) a)
  | [], a, _, a0 => ⟨a0, Int.dvd_refl a, fun _ h => nomatch h⟩
  | t :: T, a, h, a0 => by
    rw [List.foldl_cons]
    obtain ⟨y1, y2, y3⟩ := botL_fold (T := T) (fun r hr => h r (List.mem_cons_of_mem _ hr)) (Int.mul_ne_zero a0 (h t List.mem_cons_self))
    refine ⟨y1, Int.dvd_trans (Int.dvd_mul_right _ _) y2, fun r hr => ?_⟩
    rcases List.mem_cons.mp hr with q | q
    · rw [q]; exact Int.dvd_trans (Int.dvd_mul_left _ _) y2
    · exact y3 r q
theorem nullP_ok (h : Rref w R) (hf : isFree w R f = true) : botP w R ≠ 0 ∧ IsNull w R f (botP w R) (nullP w R (botP w R) f) := by
  obtain ⟨x1, _, x3⟩ := botP_fold (w := w) (T := R) (a := 1) (fun r hr => (h.nz r hr).isLd.ne) (by decide)
  refine ⟨x1, null_of h hf (fun r hr => ?_) (if_pos rfl) (fun j _ ne => if_neg ne)⟩
  refine Int.fdiv_mul_cancel ?_
  exact Int.dvd_trans (x3 r hr) (Int.dvd_mul_left _ _)
theorem nullL_ok (h : Rref w R) (hf : isFree w R f = true) : botL w R ≠ 0 ∧ IsNull w R f (botL w R) (nullL w R (botL w R) f) := by
  obtain ⟨x1, _, x3⟩ := botL_fold (w := w) (T := R) (a := 1) (fun r hr => (h.nz r hr).isLd.ne) (by decide)
  refine ⟨x1, null_of h hf (fun r hr => ?_) (if_pos rfl) (fun j _ ne => if_neg ne)⟩
  have q : botL w R = r (ld w r) * (botL w R).fdiv (r (ld w r)) := (Int.mul_fdiv_cancel' (x3 r hr)).symm
  generalize (botL w R).fdiv (r (ld w r)) = y at q ⊢
  rw [q]
  grind
theorem mem_frees : f ∈ frees w R ↔ f < w ∧ isFree w R f = true := by
  unfold frees
  rw [List.mem_filter, List.mem_range]
/-- what nulls spans: all that is at right angles -/
theorem founds_sp (h : Rref w R) : Sp w (founds w R) x ↔ ∀ r ∈ R, dot w r x = 0 := by
  constructor
  · intro s r hr
    have : dot w x r = 0 := s.dot fun n hn => by
      obtain ⟨f, hf, rfl⟩ := List.mem_map.mp hn
      have := (nullP_ok h (mem_frees.mp hf).2).2.orth h (mem_frees.mp hf).1 (mem_frees.mp hf).2 r hr
      rw [← this]
      exact sumN_congr fun j _ => Int.mul_comm _ _
    rw [← this]
    exact sumN_congr fun j _ => Int.mul_comm _ _
  · intro hx
    by_cases e : ∃ f, f < w ∧ isFree w R f = true
    · obtain ⟨f0, hf0, q0⟩ := e
      exact null_span h (nullP_ok h q0).1 (fun f hf q => (nullP_ok h q).2) (fun f hf q => List.mem_map.mpr ⟨f, mem_frees.mpr ⟨hf, q⟩, rfl⟩) hx
    · exact null_span (b := 1) (n := fun _ _ => 0) h (by decide) (fun f hf q => absurd ⟨f, hf, q⟩ e) (fun f hf q => absurd ⟨f, hf, q⟩ e) hx
theorem foundsL_sp (h : Rref w R) : Sp w (foundsL w R) x ↔ ∀ r ∈ R, dot w r x = 0 := by
  constructor
  · intro s r hr
    have : dot w x r = 0 := s.dot fun n hn => by
      obtain ⟨f, hf, rfl⟩ := List.mem_map.mp hn
      have := (nullL_ok h (mem_frees.mp hf).2).2.orth h (mem_frees.mp hf).1 (mem_frees.mp hf).2 r hr
      rw [← this]
      exact sumN_congr fun j _ => Int.mul_comm _ _
    rw [← this]
    exact sumN_congr fun j _ => Int.mul_comm _ _
  · intro hx
    by_cases e : ∃ f, f < w ∧ isFree w R f = true
    · obtain ⟨f0, hf0, q0⟩ := e
      exact null_span h (nullL_ok h q0).1 (fun f hf q => (nullL_ok h q).2) (fun f hf q => List.mem_map.mpr ⟨f, mem_frees.mpr ⟨hf, q⟩, rfl⟩) hx
    · exact null_span (b := 1) (n := fun _ _ => 0) h (by decide) (fun f hf q => absurd ⟨f, hf, q⟩ e) (fun f hf q => absurd ⟨f, hf, q⟩ e) hx
theorem orth_iff (h : SameSp w R S) : (∀ r ∈ R, dot w r x = 0) ↔ ∀ r ∈ S, dot w r x = 0 := ⟨fun k r hr => (h.2 r hr).dot k, fun k r hr => (h.1 r hr).dot k⟩
/-- nulls: the span of all solutions -/
theorem nulls_sp : Sp w (nulls w rows) x ↔ ∀ r ∈ rows, dot w r x = 0 := by
  have a := reduced_ok (w := w) (rows := rows)
  have b := reduced_ok (w := w) (rows := founds w (reduced w rows))
  rw [show nulls w rows = reduced w (founds w (reduced w rows)) from rfl, ← b.same.iff, founds_sp a.rref, orth_iff a.same]
end
end La
-- M6
namespace La
def struck (line own : Vec) (at_ : Nat) : Vec := fun k => line k * own at_ - own k * line at_
def some? (w : Nat) (v : Vec) : Bool := (lead v w).isSome
def restL (w : Nat) (lft : List Vec) (own : Vec) (at_ : Nat) : List Vec := lft.map fun line => if line at_ ≠ 0 then struck line own at_ else line
def stage (w : Nat) (st : List Vec × List Vec) (at_ : Nat) : List Vec × List Vec :=
  match st.1.filter fun line => decide (line at_ ≠ 0) with
  | [] => st
  | own :: _ => (((restL w st.1 own at_).filter (some? w)).map (plain w), st.2.map (fun line => if line at_ ≠ 0 then plain w (struck line own at_) else line) ++ [own])
def left0 (w : Nat) (lines : List Vec) : List Vec := (lines.filter (some? w)).map (plain w)
def reducedL (w : Nat) (lines : List Vec) : List Vec := ((List.range (if (left0 w lines).isEmpty then 0 else w)).foldl (stage w) (left0 w lines, [])).2
section
variable {w : Nat} {R S C lines lft fnd : List Vec} {u v r own line x : Vec} {at_ : Nat}
theorem some_iff : some? w v = true ↔ Nz w v := by
  unfold some?
  rw [nz_iff]
  cases lead v w with
  | none => simp
  | some i => simp
theorem wo_struck : without w line own at_ = plain w (struck line own at_) := rfl
structure Stg (w : Nat) (lines : List Vec) (at_ : Nat) (lft fnd : List Vec) : Prop where
  nz : ∀ l ∈ lft, Nz w l
  prim : ∀ l ∈ lft, Prim w l
  bf : ∀ l ∈ lft, ∀ j, j < at_ → l j = 0
  rref : Rref w fnd
  low : ∀ r ∈ fnd, ld w r < at_
  same : SameSp w lines (fnd ++ lft)
theorem stg0 : Stg w lines 0 (left0 w lines) [] := by
  refine ⟨fun l hl => ?_, fun l hl => ?_, fun _ _ j hj => absurd hj (Nat.not_lt_zero j), ⟨fun _ h => (nomatch h), fun _ h => (nomatch h), .nil⟩, fun _ h => (nomatch h), fun x hx => ?_, fun x hx => ?_⟩
  · obtain ⟨y, hy, rfl⟩ := List.mem_map.mp hl
    exact nz_plain.mpr (some_iff.mp (List.mem_filter.mp hy).2)
  · obtain ⟨y, hy, rfl⟩ := List.mem_map.mp hl
    exact prim_plain (some_iff.mp (List.mem_filter.mp hy).2)
  · by_cases q : Nz w x
    · exact Sp.of_plain (.mem (List.mem_map.mpr ⟨x, List.mem_filter.mpr ⟨hx, some_iff.mpr q⟩, rfl⟩))
    · exact .eq .zero (not_nz.mp q)
  · obtain ⟨y, hy, rfl⟩ := List.mem_map.mp hx
    exact Sp.plain (.mem (List.mem_filter.mp hy).1)
theorem stg_step (h : Stg w lines at_ lft fnd) (hw : at_ < w) : Stg w lines (at_ + 1) (stage w (lft, fnd) at_).1 (stage w (lft, fnd) at_).2 := by
  unfold stage
  cases e : lft.filter fun line => decide (line at_ ≠ 0) with
  | nil =>
    simp only [e]
    refine ⟨h.nz, h.prim, fun l hl j hj => ?_, h.rref, fun r hr => Nat.lt_succ_of_lt (h.low r hr), h.same⟩
    by_cases q : j = at_
    · rw [q]
      apply Classical.byContradiction
      intro ne
      have : l ∈ lft.filter fun line => decide (line at_ ≠ 0) := List.mem_filter.mpr ⟨hl, by simp [ne]⟩
      rw [e] at this
      cases this
    · exact h.bf l hl j (by omega)
  | cons own tl =>
    simp only [e]
    have ho : own ∈ lft.filter fun line => decide (line at_ ≠ 0) := by rw [e]; exact List.mem_cons_self
    have hol := (List.mem_filter.mp ho).1
    have hoa : own at_ ≠ 0 := of_decide_eq_true (List.mem_filter.mp ho).2
    have isl : IsLd w own at_ := ⟨hw, hoa, h.bf own hol⟩
    -- the rows that are left
    have l1 : ∀ x ∈ ((restL w lft own at_).filter (some? w)).map (plain w), ∃ l ∈ lft, x = plain w (if l at_ ≠ 0 then struck l own at_ else l) ∧ Nz w (if l at_ ≠ 0 then struck l own at_ else l) := fun x hx => by
      obtain ⟨y, hy, rfl⟩ := List.mem_map.mp hx
      obtain ⟨h1, h2⟩ := List.mem_filter.mp hy
      obtain ⟨l, hl, rfl⟩ := List.mem_map.mp h1
      exact ⟨l, hl, rfl, some_iff.mp h2⟩
    let f : Vec → Vec := fun line => if line at_ ≠ 0 then plain w (struck line own at_) else line
    have oz : ∀ b ∈ fnd, own (ld w b) = 0 := fun b hb => h.bf own hol _ (h.low b hb)
    have fl : ∀ b ∈ fnd, IsLd w (f b) (ld w b) := fun b hb => by
      show IsLd w (if b at_ ≠ 0 then plain w (struck b own at_) else b) _
      split
      · rename_i ne; exact clear_lead (h.rref.nz b hb) isl (oz b hb) ne
      · exact (h.rref.nz b hb).isLd
    have fat : ∀ b, f b at_ = 0 := fun b => by
      show (if b at_ ≠ 0 then plain w (struck b own at_) else b) at_ = 0
      split
      · exact wo_at hw
      · rename_i q; exact Classical.not_not.mp q
    have fz : ∀ b ∈ fnd, ∀ c ∈ fnd, b (ld w c) = 0 → f b (ld w c) = 0 := fun b hb c hc z => by
      show (if b at_ ≠ 0 then plain w (struck b own at_) else b) _ = 0
      split
      · exact wo_both (h.rref.nz c hc).isLd.lt z (oz c hc)
      · exact z
    refine ⟨fun x hx => ?_, fun x hx => ?_, fun x hx j hj => ?_, ⟨fun x hx => ?_, fun x hx => ?_, ?_⟩, fun x hx => ?_, fun x hx => ?_, fun x hx => ?_⟩
    · obtain ⟨l, hl, rfl, q⟩ := l1 x hx
      exact nz_plain.mpr q
    · obtain ⟨l, hl, rfl, q⟩ := l1 x hx
      exact prim_plain q
    · obtain ⟨l, hl, rfl, q⟩ := l1 x hx
      refine (plain_iff (by omega)).mpr ?_
      split
      · rename_i ne
        show l j * own at_ - own j * l at_ = 0
        by_cases q : j = at_
        · rw [q, Int.mul_comm]; omega
        · rw [h.bf l hl j (by omega), h.bf own hol j (by omega)]; omega
      · rename_i q2
        by_cases q : j = at_
        · rw [q]; exact Classical.not_not.mp q2
        · exact h.bf l hl j (by omega)
    · rcases List.mem_append.mp hx with q | q
      · obtain ⟨b, hb, rfl⟩ := List.mem_map.mp q
        exact (fl b hb).nz
      · rw [List.mem_singleton.mp q]; exact isl.nz
    · rcases List.mem_append.mp hx with q | q
      · obtain ⟨b, hb, rfl⟩ := List.mem_map.mp q
        show Prim w (if b at_ ≠ 0 then plain w (struck b own at_) else b)
        split
        · rename_i ne
          have := (clear_lead (h.rref.nz b hb) isl (oz b hb) ne).nz
          exact prim_plain (nz_plain.mp this)
        · exact h.rref.prim b hb
      · rw [List.mem_singleton.mp q]; exact h.prim own hol
    · refine List.pairwise_append.mpr ⟨?_, .cons (fun _ h => nomatch h) .nil, fun x hx y hy => ?_⟩
      · rw [List.pairwise_map]
        refine h.rref.ort.imp_of_mem ?_
        intro a b ha hb o
        exact ⟨by rw [(fl b hb).ld]; exact fz a ha b hb o.1, by rw [(fl a ha).ld]; exact fz b hb a ha o.2⟩
      · obtain ⟨b, hb, rfl⟩ := List.mem_map.mp hx
        rw [List.mem_singleton.mp hy]
        exact ⟨by rw [isl.ld]; exact fat b, by rw [(fl b hb).ld]; exact oz b hb⟩
    · rcases List.mem_append.mp hx with q | q
      · obtain ⟨b, hb, rfl⟩ := List.mem_map.mp q
        rw [(fl b hb).ld]
        exact Nat.lt_succ_of_lt (h.low b hb)
      · rw [List.mem_singleton.mp q, isl.ld]; omega
    · -- the rows are spanned by what there is now
      refine (h.same.1 x hx).sub fun y hy => ?_
      have hin : ∀ {T : List Vec}, Sp w (T ++ [own] ++ ((restL w lft own at_).filter (some? w)).map (plain w)) own := .mem (List.mem_append_left _ (List.mem_append_right _ (List.mem_singleton.mpr rfl)))
      rcases List.mem_append.mp hy with q | q
      · have m : f y ∈ fnd.map f ++ [own] ++ ((restL w lft own at_).filter (some? w)).map (plain w) := List.mem_append_left _ (List.mem_append_left _ (List.mem_map.mpr ⟨y, q, rfl⟩))
        by_cases e : y at_ = 0
        · have : f y = y := by show (if y at_ ≠ 0 then _ else y) = y; rw [if_neg (by simp [e])]
          rw [this] at m
          exact .mem m
        · have : f y = without w y own at_ := by show (if y at_ ≠ 0 then _ else y) = _; rw [if_pos e]; rfl
          rw [this] at m
          exact wo_back hoa (.mem m) hin
      · have m : Sp w (fnd.map f ++ [own] ++ ((restL w lft own at_).filter (some? w)).map (plain w)) (if y at_ ≠ 0 then struck y own at_ else y) := by
          by_cases nz : Nz w (if y at_ ≠ 0 then struck y own at_ else y)
          · exact Sp.of_plain (.mem (List.mem_append_right _ (List.mem_map.mpr ⟨_, List.mem_filter.mpr ⟨List.mem_map.mpr ⟨y, q, rfl⟩, some_iff.mpr nz⟩, rfl⟩)))
          · exact .eq .zero (not_nz.mp nz)
        by_cases e : y at_ = 0
        · rw [if_neg (by simp [e])] at m
          exact m
        · rw [if_pos e] at m
          exact wo_back hoa (m.plain) hin
    · have sub : ∀ y ∈ fnd ++ lft, Sp w lines y := h.same.2
      have own_in := sub own (List.mem_append_right _ hol)
      rcases List.mem_append.mp hx with q | q
      · rcases List.mem_append.mp q with q | q
        · obtain ⟨b, hb, rfl⟩ := List.mem_map.mp q
          show Sp w lines (if b at_ ≠ 0 then plain w (struck b own at_) else b)
          split
          · exact wo_sp (sub b (List.mem_append_left _ hb)) own_in
          · exact sub b (List.mem_append_left _ hb)
        · rw [List.mem_singleton.mp q]; exact own_in
      · obtain ⟨l, hl, rfl, _⟩ := l1 x q
        by_cases e : l at_ = 0
        · rw [if_neg (by simp [e])]
          exact (sub l (List.mem_append_right _ hl)).plain
        · rw [if_pos e]
          exact wo_sp (sub l (List.mem_append_right _ hl)) own_in
theorem stg_fold (h : Stg w lines 0 lft fnd) : ∀ n, n ≤ w → Stg w lines n ((List.range n).foldl (stage w) (lft, fnd)).1 ((List.range n).foldl (stage w) (lft, fnd)).2
  | 0, _ => h
  | n + 1, hn => by
    rw [List.range_succ, List.foldl_append]
    exact stg_step (stg_fold h n (by omega)) (by omega)
theorem reducedL_ok : Rref w (reducedL w lines) ∧ SameSp w lines (reducedL w lines) := by
  unfold reducedL
  by_cases e : (left0 w lines).isEmpty = true
  · have s := stg0 (w := w) (lines := lines)
    rw [if_pos e]
    rw [List.isEmpty_iff.mp e] at s ⊢
    exact ⟨s.rref, by simpa using s.same⟩
  · rw [if_neg e]
    have s := stg_fold (stg0 (w := w) (lines := lines)) w (Nat.le_refl w)
    refine ⟨s.rref, ?_⟩
    have nil : ((List.range w).foldl (stage w) (left0 w lines, [])).1 = [] := by
      cases q : ((List.range w).foldl (stage w) (left0 w lines, [])).1 with
      | nil => rfl
      | cons a t =>
        exfalso
        have ha : a ∈ ((List.range w).foldl (stage w) (left0 w lines, [])).1 := by rw [q]; exact List.mem_cons_self
        obtain ⟨j, hj, ne⟩ := s.nz a ha
        exact ne (s.bf a ha j hj)
    have same := s.same
    rw [nil, List.append_nil] at same
    exact same
def nullsL (w : Nat) (rows : List Vec) : List Vec := reducedL w (foundsL w (reducedL w rows))
theorem nullsL_sp : Sp w (nullsL w lines) x ↔ ∀ r ∈ lines, dot w r x = 0 := by
  have a := reducedL_ok (w := w) (lines := lines)
  have b := reducedL_ok (w := w) (lines := foundsL w (reducedL w lines))
  rw [show nullsL w lines = reducedL w (foundsL w (reducedL w lines)) from rfl, ← b.2.iff, foundsL_sp a.1, orth_iff a.2]

theorem Rref.leads_lt (h : Rref w R) : R.length ≤ w := by
  have nd : (R.map (ld w)).Nodup := by
    rw [List.nodup_iff_pairwise_ne, List.pairwise_map]
    exact h.leads_nodup
  have sub : R.map (ld w) ⊆ List.range w := by
    intro x hx
    obtain ⟨r, hr, rfl⟩ := List.mem_map.mp hx
    exact List.mem_range.mpr (h.nz r hr).isLd.lt
  have := nd.length_le_of_subset sub
  rwa [List.length_map, List.length_range] at this
theorem Rref.full (h : Rref w R) : R.length = w ↔ ∀ x, (∀ r ∈ R, dot w r x = 0) → ∀ j, j < w → x j = 0 := by
  constructor
  · intro e x hx j hj
    -- every place is a lead
    have all : ∀ f, f < w → isFree w R f = false := fun f hf => by
      cases q : isFree w R f with
      | false => rfl
      | true =>
        exfalso
        have nd : (f :: R.map (ld w)).Nodup := by
          rw [List.nodup_cons]
          refine ⟨fun hm => ?_, ?_⟩
          · obtain ⟨r, hr, e⟩ := List.mem_map.mp hm
            exact isFree_iff.mp q r hr e.symm
          · rw [List.nodup_iff_pairwise_ne, List.pairwise_map]
            exact h.leads_nodup
        have sub : f :: R.map (ld w) ⊆ List.range w := by
          intro x hx
          rcases List.mem_cons.mp hx with q | q
          · rw [q]; exact List.mem_range.mpr hf
          · obtain ⟨r, hr, rfl⟩ := List.mem_map.mp q
            exact List.mem_range.mpr (h.nz r hr).isLd.lt
        have := nd.length_le_of_subset sub
        rw [List.length_cons, List.length_map, List.length_range] at this
        omega
    have : ∃ r ∈ R, j = ld w r := by
      apply Classical.byContradiction
      intro no
      have : isFree w R j = true := isFree_iff.mpr fun c hc e => no ⟨c, hc, e⟩
      rw [all j hj] at this
      cases this
    obtain ⟨r, hr, rfl⟩ := this
    have d := hx r hr
    rw [h.dot_eq hr, sumN_zero fun f hf => by rw [if_neg (by rw [all f hf]; decide)], Int.add_zero] at d
    exact (Int.mul_eq_zero.mp d).resolve_left (h.nz r hr).isLd.ne
  · intro k
    apply Classical.byContradiction
    intro ne
    have lt : R.length < w := by
      have := h.leads_lt
      omega
    have : ∃ f, f < w ∧ isFree w R f = true := by
      apply Classical.byContradiction
      intro no
      have sub : List.range w ⊆ R.map (ld w) := by
        intro f hf
        apply Classical.byContradiction
        intro nm
        exact no ⟨f, List.mem_range.mp hf, by unfold isFree; exact decide_eq_true nm⟩
      have := (List.nodup_range (n := w)).length_le_of_subset sub
      rw [List.length_map, List.length_range] at this
      omega
    obtain ⟨f, hf, q⟩ := this
    obtain ⟨b0, n⟩ := nullP_ok h q
    have := k _ (n.orth h hf q) f hf
    rw [n.free] at this
    exact b0 this
/-- nothing but zero solves the rows -/
def Trivial (w : Nat) (rows : List Vec) : Prop := ∀ x, (∀ r ∈ rows, dot w r x = 0) → ∀ j, j < w → x j = 0
theorem rank_iff : (reduced w lines).length = w ↔ Trivial w lines := by
  have a := reduced_ok (w := w) (rows := lines)
  rw [a.rref.full]
  unfold Trivial
  constructor
  · intro h x hx; exact h x ((orth_iff a.same).mp hx)
  · intro h x hx; exact h x ((orth_iff a.same).mpr hx)
theorem rankL_iff : (reducedL w lines).length = w ↔ Trivial w lines := by
  have a := reducedL_ok (w := w) (lines := lines)
  rw [a.1.full]
  unfold Trivial
  constructor
  · intro h x hx; exact h x ((orth_iff a.2).mp hx)
  · intro h x hx; exact h x ((orth_iff a.2).mpr hx)
/-- two reduced bases of one span have the same leads -/
theorem same_leads (h : Rref w R) (g : Rref w S) (e : ∀ r ∈ R, Sp w S r) : ∀ r ∈ R, ∃ s ∈ S, ld w s = ld w r := fun r hr => by
  obtain ⟨N, n0, c, k⟩ := (e r hr).to_comb
  have hl := (h.nz r hr).isLd
  apply Classical.byContradiction
  intro no
  have z : ∀ i, i < S.length → c i * row S i (ld w r) = 0 := fun i hi => by
    have gl := (g.nz _ (row_mem hi)).isLd
    by_cases q : ld w r < ld w (row S i)
    · rw [gl.bf _ q, Int.mul_zero]
    · have ne : ld w (row S i) ≠ ld w r := fun q => no ⟨_, row_mem hi, q⟩
      have a := k _ gl.lt
      rw [hl.bf _ (by omega), Int.mul_zero] at a
      unfold comb at a
      rw [sumN_one hi fun m hm ne => by rw [g.at_ hm hi ne, Int.mul_zero]] at a
      have c0 : c i = 0 := (Int.mul_eq_zero.mp a.symm).resolve_right gl.ne
      rw [c0, Int.zero_mul]
  have a := k _ hl.lt
  unfold comb at a
  rw [sumN_zero z] at a
  exact (Int.mul_eq_zero.mp a).elim n0 hl.ne
theorem same_len_le (h : Rref w R) (g : Rref w S) (e : ∀ r ∈ R, Sp w S r) : R.length ≤ S.length := by
  have nd : (R.map (ld w)).Nodup := by
    rw [List.nodup_iff_pairwise_ne, List.pairwise_map]
    exact h.leads_nodup
  have sub : R.map (ld w) ⊆ S.map (ld w) := by
    intro x hx
    obtain ⟨r, hr, rfl⟩ := List.mem_map.mp hx
    obtain ⟨s, hs, e⟩ := same_leads h g e r hr
    exact List.mem_map.mpr ⟨s, hs, e⟩
  have := nd.length_le_of_subset sub
  rwa [List.length_map, List.length_map] at this
theorem same_len (h : Rref w R) (g : Rref w S) (e : SameSp w R S) : R.length = S.length := Nat.le_antisymm (same_len_le h g e.1) (same_len_le g h e.2)
end
end La
-- M7
namespace La
def Bt (w b : Nat) (v : Vec) : Prop := ∀ j, j < w → (v j).natAbs < 2 ^ b
def raw (row other : Vec) (at_ : Nat) : Vec := fun i => row i * other at_ - other i * row at_
def RawOk (w : Nat) (row other : Vec) (at_ : Nat) : Prop := Bt w 9000 row ∧ Bt w 9000 other ∧ Bt w 9000 (raw row other at_)
def LoFine (w : Nat) (r : Vec) (basis : List Vec) : Prop := (∀ i, i < basis.length → RawOk w ((basis.take i).foldl (lo1 w) r) (row basis i) (ld w (row basis i))) ∧ Bt w 9000 (basis.foldl (lo1 w) r)
def WrFine (w : Nat) (basis : List Vec) (r : Vec) : Prop := Rref w basis ∧ LoFine w r basis ∧ ∀ at_, lead (left w r basis) w = some at_ →
  (∀ other ∈ basis, RawOk w other (left w r basis) at_) ∧ ((basis.map (fun other => if other at_ ≠ 0 then without w other (left w r basis) at_ else other) ++ [left w r basis]).Pairwise fun a b => ld w a ≠ ld w b) ∧
    ∀ x ∈ basis.map (fun other => if other at_ ≠ 0 then without w other (left w r basis) at_ else other) ++ [left w r basis], Nz w x
def RedFine (w : Nat) (rows : List Vec) : Prop := ∀ i, i < rows.length → WrFine w (reduced w (rows.take i)) (row rows i)
def NullFine (w : Nat) (rows : List Vec) : Prop := RedFine w rows ∧ (∀ r ∈ reduced w rows, Bt w 9000 r) ∧ (∀ i, i ≤ (reduced w rows).length → (botP w ((reduced w rows).take i)).natAbs < 2 ^ 9000) ∧ RedFine w (founds w (reduced w rows))
section
variable {w a b c : Nat} {R S C rows basis : List Vec} {u v r other x : Vec} {f : Nat}
theorem Bt.mono (h : Bt w a v) (e : a ≤ b) : Bt w b v := fun j hj => Nat.lt_of_lt_of_le (h j hj) (Nat.pow_le_pow_right (by decide) e)
theorem Bt.plain (h : Bt w a v) : Bt w a (plain w v) := fun j hj => Nat.lt_of_le_of_lt (plain_le hj) (h j hj)
theorem Bt.raw {at_ : Nat} (h : Bt w a r) (g : Bt w b other) (ha : at_ < w) : Bt w (a + b + 1) (raw r other at_) := fun j hj => by
  show (r j * other at_ - other j * r at_).natAbs < _
  have h1 := Int.natAbs_sub_le (r j * other at_) (other j * r at_)
  rw [Int.natAbs_mul, Int.natAbs_mul] at h1
  have p1 : (r j).natAbs * (other at_).natAbs < 2 ^ a * 2 ^ b := Nat.mul_lt_mul'' (h j hj) (g at_ ha)
  have p2 : (other j).natAbs * (r at_).natAbs < 2 ^ b * 2 ^ a := Nat.mul_lt_mul'' (g j hj) (h at_ ha)
  rw [Nat.mul_comm (2 ^ b)] at p2
  rw [Nat.pow_succ, Nat.pow_add]
  omega
theorem Bt.without {at_ : Nat} (h : Bt w a r) (g : Bt w b other) (ha : at_ < w) : Bt w (a + b + 1) (without w r other at_) := (h.raw g ha).plain
theorem Bt.lo1 (h : Bt w a r) (g : Bt w b other) (nz : Nz w other) : Bt w (a + (b + 1)) (lo1 w r other) := by
  unfold La.lo1
  split
  · exact h.without g nz.isLd.lt
  · exact h.mono (by omega)
theorem lo_bt : ∀ {T : List Vec} {r : Vec} {a : Nat}, (∀ o ∈ T, Nz w o ∧ Bt w b o) → Bt w a r → Bt w (a + T.length * (b + 1)) (T.foldl (lo1 w) r)
  | [], r, a, _, h => by simpa using h
  | t :: T, r, a, hT, h => by
    rw [List.foldl_cons, List.length_cons]
    have := lo_bt (T := T) (fun o ho => hT o (List.mem_cons_of_mem _ ho)) (h.lo1 (hT t List.mem_cons_self).2 (hT t List.mem_cons_self).1)
    refine this.mono ?_
    rw [Nat.succ_mul]
    omega
theorem take_mem {i : Nat} {o : Vec} (h : o ∈ R.take i) : o ∈ R := List.mem_of_mem_take h
/-- one row more is fine -/
theorem wr_fine {K : Nat} (h : Rref w basis) (hw : Rref w (withRow w basis r)) (hb : ∀ o ∈ basis, Bt w c o) (hr : Bt w a r) (hK : basis.length ≤ K) (lim : a + K * (c + 1) + c + 1 ≤ 9000) : WrFine w basis r := by
  have nb : ∀ o ∈ basis, Nz w o ∧ Bt w c o := fun o ho => ⟨h.nz o ho, hb o ho⟩
  have kk : ∀ i, i ≤ basis.length → i * (c + 1) ≤ K * (c + 1) := fun i hi => Nat.mul_le_mul_right _ (by omega)
  have bl : Bt w (a + K * (c + 1)) (left w r basis) := (lo_bt nb hr).plain.mono (by have := kk _ (Nat.le_refl _); omega)
  refine ⟨h, ⟨fun i hi => ?_, (lo_bt nb hr).mono (by have := kk _ (Nat.le_refl _); omega)⟩, fun at_ e => ⟨fun o ho => ?_, ?_, ?_⟩⟩
  · have l : Bt w (a + K * (c + 1)) ((basis.take i).foldl (lo1 w) r) := (lo_bt (T := basis.take i) (fun o ho => nb o (take_mem ho)) hr).mono (by
      have := kk (basis.take i).length (by rw [List.length_take]; omega)
      omega)
    have m := row_mem hi
    exact ⟨l.mono (by omega), (hb _ m).mono (by omega), (l.raw (hb _ m) (h.nz _ m).isLd.lt).mono (by omega)⟩
  · have hl := isLd_iff.mp e
    exact ⟨(hb o ho).mono (by omega), bl.mono (by omega), ((hb o ho).raw bl hl.lt).mono (by omega)⟩
  · -- the leads differ: the result is reduced
    have e1 : withRow w basis r = srt w (basis.map (fun other => if other at_ ≠ 0 then without w other (left w r basis) at_ else other) ++ [left w r basis]) := by
      unfold withRow
      simp only [e]
    rw [e1] at hw
    exact (hw.perm srt_perm).leads_nodup
  · have e1 : withRow w basis r = srt w (basis.map (fun other => if other at_ ≠ 0 then without w other (left w r basis) at_ else other) ++ [left w r basis]) := by
      unfold withRow
      simp only [e]
    rw [e1] at hw
    exact fun x hx => hw.nz x (srt_perm.mem_iff.mpr hx)
theorem Red.length_le (h : Red w rows basis) : basis.length ≤ rows.length := by
  obtain ⟨C, len, hC, ind, _⟩ := h.few
  have nd : ∀ {C : List Vec}, Indep w C → C.Nodup := by
    intro C
    induction C with
    | nil => intro _; exact .nil
    | cons c C ih =>
      intro h
      exact List.nodup_cons.mpr ⟨fun m => h.1 (.mem m), ih h.2⟩
  have := (nd ind).length_le_of_subset (l₂ := rows.map (plain w)) hC
  rw [List.length_map] at this
  omega
theorem bnd_lt {k b : Nat} (hk : k ≤ 9) : bnd k (2 ^ b) < 2 ^ (k * (b + 5)) := by
  cases k with
  | zero => simp [bnd]
  | succ k =>
    unfold bnd
    have h1 : (2 * (k + 1) * 2 ^ b) ^ (k + 1 - 1) ≤ (2 ^ (b + 5)) ^ k := by
      rw [Nat.add_sub_cancel]
      refine Nat.pow_le_pow_left ?_ k
      rw [Nat.pow_add, Nat.mul_comm (2 ^ b)]
      exact Nat.mul_le_mul_right _ (by omega)
    have h2 : (2 * (k + 1) * 2 ^ b) ^ (k + 1 - 1) * 2 ^ b ≤ (2 ^ (b + 5)) ^ k * 2 ^ b := Nat.mul_le_mul_right _ h1
    have h3 : (k + 1) * ((2 * (k + 1) * 2 ^ b) ^ (k + 1 - 1) * 2 ^ b) ≤ 16 * ((2 ^ (b + 5)) ^ k * 2 ^ b) := Nat.mul_le_mul (by omega) h2
    have e : 2 ^ ((k + 1) * (b + 5)) = 32 * ((2 ^ (b + 5)) ^ k * 2 ^ b) := by
      rw [← Nat.pow_mul, ← Nat.pow_add, show (32 : Nat) = 2 ^ 5 from rfl, ← Nat.pow_add]
      congr 1
      rw [Nat.succ_mul, Nat.mul_comm k]
      omega
    rw [e]
    have p : 0 < (2 ^ (b + 5)) ^ k * 2 ^ b := Nat.mul_pos (Nat.pow_pos (Nat.pow_pos (by decide))) (Nat.pow_pos (by decide))
    omega
theorem Bt.bd (h : Bt w b v) : Bd w (2 ^ b) v := fun j hj => Nat.le_of_lt (h j hj)
theorem Red.bits (h : Red w rows basis) (hw : w ≤ 9) (hb : ∀ r ∈ rows, Bt w b (plain w r)) : ∀ r ∈ basis, Bt w (basis.length * (b + 5)) r := fun r hr j hj =>
  Nat.lt_of_le_of_lt (h.bound (Nat.pow_pos (by decide)) (fun r hr => (hb r hr).bd) r hr j hj) (bnd_lt (Nat.le_trans h.rref.leads_lt hw))
theorem red_fine {K : Nat} (hw : w ≤ 9) (ha : ∀ r ∈ rows, Bt w a r) (hb : ∀ r ∈ rows, Bt w b (plain w r)) (hK : w ≤ K ∨ rows.length ≤ K) (lim : a + K * (K * (b + 5) + 1) + K * (b + 5) + 1 ≤ 9000) : RedFine w rows := fun i hi => by
  have h := reduced_ok (w := w) (rows := rows.take i)
  have g := withRow_ok (row := row rows i) h
  have l1 := h.rref.leads_lt
  have l2 := h.length_le
  rw [List.length_take] at l2
  have lK : (reduced w (rows.take i)).length ≤ K := by omega
  refine wr_fine (K := K) (c := K * (b + 5)) (a := a) h.rref g.rref (fun o ho => ?_) (ha _ (row_mem hi)) lK (by omega)
  exact (h.bits hw (fun r hr => hb r (take_mem hr)) o ho).mono (Nat.mul_le_mul_right _ lK)
theorem fdiv_le {x y : Int} (h : y ∣ x) (y0 : y ≠ 0) : (x.fdiv y).natAbs ≤ x.natAbs := by
  have e := Int.mul_fdiv_cancel' h
  rw [show x.natAbs = (y * x.fdiv y).natAbs from by rw [e], Int.natAbs_mul]
  exact Nat.le_mul_of_pos_left _ (by omega)
theorem botP_bits : ∀ {T : List Vec} {a : Int} {s : Nat}, (∀ r ∈ T, r (ld w r) ≠ 0 ∧ (r (ld w r)).natAbs < 2 ^ c) → a ≠ 0 → a.natAbs < 2 ^ s → (T.foldl (fun b r => (b * r (ld w r)).fdiv (gcdI b (r (ld w r)))) a).natAbs < 2 ^ (s + T.length * c)
  | [], a, s, _, _, h => by simpa using h
  | t :: T, a, s, h, a0, ha => by
    rw [List.foldl_cons, List.length_cons]
    obtain ⟨x1, _, _, x4⟩ := lcm_ok a0 (h t List.mem_cons_self).1
    have := botP_bits (T := T) (s := s + c) (fun r hr => h r (List.mem_cons_of_mem _ hr)) x1 (by
      refine Nat.lt_of_le_of_lt x4 ?_
      rw [Nat.pow_add]
      exact Nat.mul_lt_mul'' ha (h t List.mem_cons_self).2)
    refine Nat.lt_of_lt_of_le this (Nat.pow_le_pow_right (by decide) ?_)
    rw [Nat.succ_mul]
    omega
theorem botL_bits : ∀ {T : List Vec} {a : Int} {s : Nat}, (∀ r ∈ T, (r (ld w r)).natAbs < 2 ^ c) → a.natAbs < 2 ^ s → (T.foldl (fun b r => b * r (ld w r)) a).natAbs < 2 ^ (s + T.length * c)
  | [], a, s, _, h => by simpa using h
  | t :: T, a, s, h, ha => by
    rw [List.foldl_cons, List.length_cons]
    have := botL_bits (T := T) (a := a * t (ld w t)) (s := s + c) (fun r hr => h r (List.mem_cons_of_mem _ hr)) (by
      rw [Int.natAbs_mul, Nat.pow_add]
      exact Nat.mul_lt_mul'' ha (h t List.mem_cons_self))
    refine Nat.lt_of_lt_of_le this (Nat.pow_le_pow_right (by decide) ?_)
    rw [Nat.succ_mul]
    omega
/-- a vector at right angles, as it is made -/
theorem null_bits {bt : Int} {n : Vec} (h : Rref w R) (hc : ∀ r ∈ R, Bt w c r) (hb : bt.natAbs < 2 ^ b) (hf : f < w) (fr : isFree w R f = true) (k : IsNull w R f bt n) : Bt w (c + b) n := fun j hj => by
  by_cases q : isFree w R j = true
  · by_cases e : j = f
    · rw [e, k.free]
      exact Nat.lt_of_lt_of_le hb (Nat.pow_le_pow_right (by decide) (by omega))
    · rw [k.else_ j hj e (isFree_iff.mp q)]
      exact Nat.pow_pos (by decide)
  · have : ∃ r ∈ R, j = ld w r := by
      apply Classical.byContradiction
      intro no
      exact q (isFree_iff.mpr fun c hc e => no ⟨c, hc, e⟩)
    obtain ⟨r, hr, rfl⟩ := this
    have a := k.at_ r hr
    have ne := (h.nz r hr).isLd.ne
    have le : (n (ld w r)).natAbs ≤ (r f).natAbs * bt.natAbs := by
      have e : (n (ld w r)).natAbs * (r (ld w r)).natAbs = (r f).natAbs * bt.natAbs := by rw [← Int.natAbs_mul, a, Int.natAbs_mul, Int.natAbs_neg]
      rw [← e]
      exact Nat.le_mul_of_pos_right _ (by omega)
    refine Nat.lt_of_le_of_lt le ?_
    rw [Nat.pow_add]
    exact Nat.mul_lt_mul'' (hc r hr f hf) hb
/-- .. and made plain -/
theorem null_plain {bt : Int} {n : Vec} (hw : w ≤ 9) (h : Red w rows R) (hb : ∀ r ∈ rows, Bt w b (plain w r)) (b0 : bt ≠ 0) (hf : f < w) (fr : isFree w R f = true) (k : IsNull w R f bt n) : Bt w (R.length * (b + 5) + 1) (plain w n) := by
  obtain ⟨C, len, hC, ind, same⟩ := h.few
  have nz : Nz w n := ⟨f, hf, by rw [k.free]; exact b0⟩
  have P := plain_spec nz
  obtain ⟨c, c0, e⟩ := P.c
  have bd := null_bound (p := plain w n) (f := f) h.rref (B := 2 ^ b) (Nat.pow_pos (by decide)) same len (fun x hx => by
    obtain ⟨r, hr, rfl⟩ := List.mem_map.mp (hC x hx)
    exact (hb r hr).bd) P.prim (nz_plain.mpr nz) hf fr (fun r hr => by
      have o := k.orth h.rref hf fr r hr
      have e2 : dot w r n = c * dot w r (plain w n) := by
        unfold dot
        rw [← sumN_mul]
        exact sumN_congr fun j hj => by rw [e j hj]; grind
      rw [e2] at o
      exact (Int.mul_eq_zero.mp o).resolve_left c0) (fun j hj ne q => (plain_iff hj).mpr (k.else_ j hj ne (isFree_iff.mp q)))
  have lw := h.rref.leads_lt
  intro j hj
  refine Nat.lt_of_le_of_lt (bd j hj) ?_
  have : (2 * (R.length + 1) * 2 ^ b) ^ R.length ≤ (2 ^ (b + 5)) ^ R.length := by
    refine Nat.pow_le_pow_left ?_ _
    rw [Nat.pow_add, Nat.mul_comm (2 ^ b)]
    exact Nat.mul_le_mul_right _ (by omega)
  rw [← Nat.pow_mul, Nat.mul_comm (b + 5)] at this
  refine Nat.lt_of_le_of_lt this ?_
  rw [Nat.pow_succ]
  have : 0 < 2 ^ (R.length * (b + 5)) := Nat.pow_pos (by decide)
  omega
theorem filter_free (h : Rref w R) : (frees w R).length + R.length ≤ w := by
  have nd : (frees w R ++ R.map (ld w)).Nodup := by
    rw [List.nodup_append]
    refine ⟨List.nodup_range.filter _, ?_, ?_⟩
    · rw [List.nodup_iff_pairwise_ne, List.pairwise_map]
      exact h.leads_nodup
    · intro x hx y hy e
      obtain ⟨r, hr, e2⟩ := List.mem_map.mp hy
      exact isFree_iff.mp (mem_frees.mp hx).2 r hr (by rw [e, e2])
  have sub : frees w R ++ R.map (ld w) ⊆ List.range w := by
    intro x hx
    rcases List.mem_append.mp hx with q | q
    · exact List.mem_range.mpr (mem_frees.mp q).1
    · obtain ⟨r, hr, rfl⟩ := List.mem_map.mp q
      exact List.mem_range.mpr (h.nz r hr).isLd.lt
  have := nd.length_le_of_subset sub
  rwa [List.length_append, List.length_map, List.length_range] at this
/-- the rows of the conditions: below 2 ^ 14 -/
theorem null_fine (hw : w ≤ 9) (h : ∀ r ∈ rows, Bt w 14 r) : NullFine w rows ∧ ∀ r ∈ nulls w rows, Bt w 410 r := by
  have hp : ∀ r ∈ rows, Bt w 14 (plain w r) := fun r hr => (h r hr).plain
  have A := reduced_ok (w := w) (rows := rows)
  have lw := A.rref.leads_lt
  have bb := A.bits hw hp
  have bb2 : ∀ r ∈ reduced w rows, Bt w 171 r := fun r hr => (bb r hr).mono (by omega)
  have lead_b : ∀ r ∈ reduced w rows, r (ld w r) ≠ 0 ∧ (r (ld w r)).natAbs < 2 ^ 171 := fun r hr => ⟨(A.rref.nz r hr).isLd.ne, bb2 r hr _ (A.rref.nz r hr).isLd.lt⟩
  have bot : ∀ i, i ≤ (reduced w rows).length → (botP w ((reduced w rows).take i)).natAbs < 2 ^ 1540 := fun i hi => by
    have := botP_bits (T := (reduced w rows).take i) (a := 1) (s := 1) (fun r hr => lead_b r (take_mem hr)) (by decide) (by decide)
    refine Nat.lt_of_lt_of_le this (Nat.pow_le_pow_right (by decide) ?_)
    have : ((reduced w rows).take i).length ≤ 9 := by rw [List.length_take]; omega
    omega
  have bot9 := bot _ (Nat.le_refl _)
  rw [List.take_length] at bot9
  have nul : ∀ n ∈ founds w (reduced w rows), Bt w 1711 n ∧ Bt w ((reduced w rows).length * 19 + 1) (plain w n) := fun n hn => by
    obtain ⟨f, hf, rfl⟩ := List.mem_map.mp hn
    obtain ⟨f1, f2⟩ := mem_frees.mp hf
    obtain ⟨b0, k⟩ := nullP_ok A.rref f2
    exact ⟨(null_bits A.rref bb2 bot9 f1 f2 k).mono (by omega), (null_plain hw A hp b0 f1 f2 k).mono (by omega)⟩
  have len : (founds w (reduced w rows)).length + (reduced w rows).length ≤ 9 := by
    have := filter_free A.rref
    unfold founds
    rw [List.length_map]
    omega
  generalize hm : (reduced w rows).length = m at nul len
  have bits : ∀ m, m ≤ 9 → 1711 + (9 - m) * ((9 - m) * (m * 19 + 1 + 5) + 1) + (9 - m) * (m * 19 + 1 + 5) + 1 ≤ 9000 ∧ (9 - m) * (m * 19 + 1 + 5) ≤ 410 := by
    intro m hm
    have : m = 0 ∨ m = 1 ∨ m = 2 ∨ m = 3 ∨ m = 4 ∨ m = 5 ∨ m = 6 ∨ m = 7 ∨ m = 8 ∨ m = 9 := by omega
    rcases this with rfl | rfl | rfl | rfl | rfl | rfl | rfl | rfl | rfl | rfl <;> omega
  have bm := bits m (by omega)
  refine ⟨⟨red_fine (K := 9) hw h hp (.inl hw) (by omega), fun r hr => (bb2 r hr).mono (by omega), fun i hi => Nat.lt_of_lt_of_le (bot i hi) (Nat.pow_le_pow_right (by decide) (by omega)), ?_⟩, fun r hr => ?_⟩
  · exact red_fine (K := 9 - m) (a := 1711) (b := m * 19 + 1) hw (fun r hr => (nul r hr).1) (fun r hr => (nul r hr).2) (.inr (by omega)) bm.1
  · have B := reduced_ok (w := w) (rows := founds w (reduced w rows))
    refine (B.bits hw (fun r hr => (nul r hr).2) r hr).mono ?_
    refine Nat.le_trans (Nat.mul_le_mul_right _ ?_) bm.2
    have := B.length_le
    omega
end
end La
-- M8
namespace La
def StFine (w : Nat) (st : List Vec × List Vec) (t : Nat) : Prop := (∀ l ∈ st.1, Bt w 9000 l) ∧ (∀ l ∈ st.2, Bt w 9000 l) ∧ ∀ own ∈ st.1, own t ≠ 0 → (∀ l ∈ st.1, Bt w 9000 (struck l own t)) ∧ ∀ l ∈ st.2, Bt w 9000 (struck l own t)
def LrFine (w : Nat) (lines : List Vec) : Prop := (∀ l ∈ lines, Bt w 9000 l) ∧ ∀ t, t < w → StFine w ((List.range t).foldl (stage w) (left0 w lines, [])) t
def NullLFine (w : Nat) (rows : List Vec) : Prop := LrFine w rows ∧ (∀ r ∈ reducedL w rows, Bt w 9000 r) ∧ (∀ i, i ≤ (reducedL w rows).length → (botL w ((reducedL w rows).take i)).natAbs < 2 ^ 9000) ∧ LrFine w (foundsL w (reducedL w rows))
section
variable {w a b c d : Nat} {R S C lines rows lft fnd : List Vec} {u v r own line x : Vec} {f : Nat}
theorem redL : Red w lines (reducedL w lines) := by
  obtain ⟨h1, h2⟩ := reducedL_ok (w := w) (lines := lines)
  have A := reduced_ok (w := w) (rows := lines)
  obtain ⟨C, len, hC, ind, same⟩ := A.few
  have s := A.same.symm.trans h2
  exact ⟨h1, h2, C, by rw [len, same_len A.rref h1 s], hC, ind, same.trans s⟩
theorem filter_lt {α : Type} {p : α → Bool} : ∀ {l : List α}, (∃ x ∈ l, p x = false) → (l.filter p).length < l.length
  | [], h => by obtain ⟨x, hx, _⟩ := h; cases hx
  | y :: l, h => by
    rw [List.filter_cons]
    have le := List.length_filter_le p l
    split
    · rename_i q
      have : ∃ x ∈ l, p x = false := by
        obtain ⟨x, hx, e⟩ := h
        rcases List.mem_cons.mp hx with z | z
        · rw [z, q] at e; cases e
        · exact ⟨x, z, e⟩
      have := filter_lt this
      simp only [List.length_cons]
      omega
    · simp only [List.length_cons]
      omega
def beta (b e : Nat) : Nat := (b + 1) * 2 ^ e - 1
theorem beta_succ {b e : Nat} : beta b e + beta b e + 1 = beta b (e + 1) := by
  unfold beta
  have p : 0 < (b + 1) * 2 ^ e := Nat.mul_pos (by omega) (Nat.pow_pos (by decide))
  rw [Nat.pow_succ, ← Nat.mul_assoc]
  omega
theorem beta_mono {b e e' : Nat} (h : e ≤ e') : beta b e ≤ beta b e' := by
  unfold beta
  have := Nat.mul_le_mul_left (b + 1) (Nat.pow_le_pow_right (n := 2) (by decide) h)
  omega
/-- a stage, with e stages ahead of it that did something -/
structure StB (w b t d : Nat) (e : Nat) (st : List Vec × List Vec) : Prop where
  l : ∀ l ∈ st.1, Bt w (beta b e) l
  f : ∀ l ∈ st.2, Bt w (beta b e) l
  t : e ≤ t
  d : e + st.1.length ≤ d
theorem stb_step {t e : Nat} {st : List Vec × List Vec} (h : StB w b t d e st) (ht : t < w) (E : Nat) (hE : w ≤ E ∨ d ≤ E) (lim : beta b E ≤ 9000) : StFine w st t ∧ ∃ e', StB w b (t + 1) d e' (stage w st t) := by
  have hh := h
  obtain ⟨l, f, t', d'⟩ := h
  have be : st.1 ≠ [] → beta b (e + 1) ≤ 9000 := fun ne => by
    refine Nat.le_trans (beta_mono ?_) lim
    have : 0 < st.1.length := List.length_pos_iff.mpr ne
    rcases hE with q | q <;> omega
  have e9 : beta b e ≤ 9000 := Nat.le_trans (beta_mono (by omega)) lim
  have str : ∀ own ∈ st.1, ∀ x, Bt w (beta b e) x → Bt w (beta b (e + 1)) (struck x own t) := fun own ho x hx => (hx.raw (l own ho) ht).mono (by rw [beta_succ]; exact Nat.le_refl _)
  refine ⟨⟨fun x hx => (l x hx).mono e9, fun x hx => (f x hx).mono e9, fun own ho _ => ⟨fun x hx => (str own ho x (l x hx)).mono (be (List.ne_nil_of_mem ho)), fun x hx => (str own ho x (f x hx)).mono (be (List.ne_nil_of_mem ho))⟩⟩, ?_⟩
  unfold stage
  cases q : st.1.filter fun line => decide (line t ≠ 0) with
  | nil =>
    simp only [q]
    exact ⟨e, hh.l, hh.f, by omega, hh.d⟩
  | cons own tl =>
    simp only [q]
    have ho : own ∈ st.1.filter fun line => decide (line t ≠ 0) := by rw [q]; exact List.mem_cons_self
    have hol := (List.mem_filter.mp ho).1
    have hoa : own t ≠ 0 := of_decide_eq_true (List.mem_filter.mp ho).2
    have up : ∀ x, Bt w (beta b e) x → Bt w (beta b (e + 1)) x := fun x hx => hx.mono (beta_mono (by omega))
    refine ⟨e + 1, fun x hx => ?_, fun x hx => ?_, by omega, ?_⟩
    · obtain ⟨y, hy, rfl⟩ := List.mem_map.mp hx
      obtain ⟨z, hz, rfl⟩ := List.mem_map.mp (List.mem_filter.mp hy).1
      refine Bt.plain ?_
      show Bt w _ (if z t ≠ 0 then struck z own t else z)
      split
      · exact str own hol z (l z hz)
      · exact up z (l z hz)
    · rcases List.mem_append.mp hx with q | q
      · obtain ⟨z, hz, rfl⟩ := List.mem_map.mp q
        show Bt w _ (if z t ≠ 0 then plain w (struck z own t) else z)
        split
        · exact (str own hol z (f z hz)).plain
        · exact up z (f z hz)
      · rw [List.mem_singleton.mp q]
        exact up own (l own hol)
    · have : ((restL w st.1 own t).filter (some? w)).length < (restL w st.1 own t).length := by
        refine filter_lt ⟨struck own own t, List.mem_map.mpr ⟨own, hol, by rw [if_pos hoa]⟩, ?_⟩
        cases z : some? w (struck own own t) with
        | false => rfl
        | true =>
          obtain ⟨j, hj, ne⟩ := some_iff.mp z
          exact absurd (by show own j * own t - own j * own t = 0; omega) ne
      rw [List.length_map]
      unfold restL at this ⊢
      rw [List.length_map] at this
      omega
theorem lr_fine (E : Nat) (h9 : ∀ l ∈ lines, Bt w 9000 l) (hb : ∀ l ∈ lines, Bt w b (plain w l)) (hE : w ≤ E ∨ lines.length ≤ E) (lim : beta b E ≤ 9000) : LrFine w lines := by
  have key : ∀ t, t ≤ w → ∃ e, StB w b t lines.length e ((List.range t).foldl (stage w) (left0 w lines, [])) := by
    intro t
    induction t with
    | zero =>
      intro _
      refine ⟨0, fun x hx => ?_, fun x hx => (nomatch hx), by omega, ?_⟩
      · obtain ⟨y, hy, rfl⟩ := List.mem_map.mp hx
        refine (hb y (List.mem_filter.mp hy).1).mono ?_
        unfold beta
        simp
      · show 0 + ((lines.filter (some? w)).map (plain w)).length ≤ _
        rw [List.length_map]
        have := List.length_filter_le (some? w) lines
        omega
    | succ t ih =>
      intro ht
      obtain ⟨e, S⟩ := ih (by omega)
      rw [List.range_succ, List.foldl_append]
      exact (stb_step S (by omega) E hE lim).2
  refine ⟨h9, fun t ht => ?_⟩
  obtain ⟨e, S⟩ := key t (by omega)
  exact (stb_step S ht E hE lim).1
theorem nullL_fine (hw : w ≤ 9) (h : ∀ r ∈ rows, Bt w 14 r) : NullLFine w rows ∧ ∀ r ∈ nullsL w rows, Bt w 410 r := by
  have hp : ∀ r ∈ rows, Bt w 14 (plain w r) := fun r hr => (h r hr).plain
  have A := redL (w := w) (lines := rows)
  have lw := A.rref.leads_lt
  have bb := A.bits hw hp
  have bb2 : ∀ r ∈ reducedL w rows, Bt w 171 r := fun r hr => (bb r hr).mono (by omega)
  have bot : ∀ i, i ≤ (reducedL w rows).length → (botL w ((reducedL w rows).take i)).natAbs < 2 ^ 1540 := fun i hi => by
    have := botL_bits (T := (reducedL w rows).take i) (w := w) (c := 171) (a := 1) (s := 1) (fun r hr => bb2 r (take_mem hr) _ (A.rref.nz r (take_mem hr)).isLd.lt) (by decide)
    refine Nat.lt_of_lt_of_le this (Nat.pow_le_pow_right (by decide) ?_)
    have : ((reducedL w rows).take i).length ≤ 9 := by rw [List.length_take]; omega
    omega
  have bot9 := bot _ (Nat.le_refl _)
  rw [List.take_length] at bot9
  have nul : ∀ n ∈ foundsL w (reducedL w rows), Bt w 1711 n ∧ Bt w ((reducedL w rows).length * 19 + 1) (plain w n) := fun n hn => by
    obtain ⟨f, hf, rfl⟩ := List.mem_map.mp hn
    obtain ⟨f1, f2⟩ := mem_frees.mp hf
    obtain ⟨b0, k⟩ := nullL_ok A.rref f2
    exact ⟨(null_bits A.rref bb2 bot9 f1 f2 k).mono (by omega), (null_plain hw A hp b0 f1 f2 k).mono (by omega)⟩
  have len : (foundsL w (reducedL w rows)).length + (reducedL w rows).length ≤ 9 := by
    have := filter_free A.rref
    unfold foundsL
    rw [List.length_map]
    omega
  generalize hm : (reducedL w rows).length = m at nul len
  have bits : ∀ m, m ≤ 9 → beta (m * 19 + 1) (9 - m) ≤ 9000 ∧ (9 - m) * (m * 19 + 1 + 5) ≤ 410 := by
    intro m hm
    have : m = 0 ∨ m = 1 ∨ m = 2 ∨ m = 3 ∨ m = 4 ∨ m = 5 ∨ m = 6 ∨ m = 7 ∨ m = 8 ∨ m = 9 := by omega
    rcases this with rfl | rfl | rfl | rfl | rfl | rfl | rfl | rfl | rfl | rfl <;> decide +kernel
  have bm := bits m (by omega)
  refine ⟨⟨lr_fine 9 (fun r hr => (h r hr).mono (by omega)) hp (.inl hw) (by decide +kernel), fun r hr => (bb2 r hr).mono (by omega), fun i hi => Nat.lt_of_lt_of_le (bot i hi) (Nat.pow_le_pow_right (by decide) (by omega)), ?_⟩, fun r hr => ?_⟩
  · exact lr_fine (9 - m) (fun r hr => (nul r hr).1.mono (by omega)) (fun r hr => (nul r hr).2) (.inr (by omega)) bm.1
  · have B := redL (w := w) (lines := foundsL w (reducedL w rows))
    refine (B.bits hw (fun r hr => (nul r hr).2) r hr).mono ?_
    refine Nat.le_trans (Nat.mul_le_mul_right _ ?_) bm.2
    have := B.length_le
    omega
/-- small tables: their reduced rows and ranks -/
theorem small_fine (hw : w ≤ 3) (h : ∀ r ∈ rows, Bt w 430 r) : RedFine w rows ∧ LrFine w rows := ⟨red_fine (K := 3) (a := 430) (b := 430) (by omega) h (fun r hr => (h r hr).plain) (.inl hw) (by omega), lr_fine 3 (fun r hr => (h r hr).mono (by omega)) (fun r hr => (h r hr).plain) (.inl hw) (by decide +kernel)⟩
end
end La
-- M9
namespace La
abbrev Tb := Nat → Nat → Int
def mulT (n : Nat) (A B : Tb) : Tb := fun i j => sumN n fun k => A i k * B k j
def EqT (n : Nat) (A B : Tb) : Prop := ∀ i j, i < n → j < n → A i j = B i j
def tabOf (n : Nat) (v : Vec) : Tb := fun i j => v (n * i + j)
def flatOf (n : Nat) (X : Tb) : Vec := fun p => X (p / n) (p % n)
def unitT : Tb := fun i j => if i = j then 1 else 0
theorem sumN_append {m n : Nat} {f : Nat → Int} : sumN (m + n) f = sumN m f + sumN n fun j => f (m + j) := by
  induction n with
  | zero => simp [sumN]
  | succ n ih => rw [← Nat.add_assoc]; simp only [sumN]; rw [ih]; omega
theorem sumN_split {m n : Nat} {f : Nat → Int} : sumN (n * m) f = sumN m fun i => sumN n fun j => f (n * i + j) := by
  induction m with
  | zero => rfl
  | succ m ih => rw [Nat.mul_succ, sumN_append, ih]; rfl
theorem mulT_assoc {n : Nat} {A B C : Tb} : mulT n (mulT n A B) C = mulT n A (mulT n B C) := by
  funext i j
  unfold mulT
  have e1 : (sumN n fun k => (sumN n fun k' => A i k' * B k' k) * C k j) = sumN n fun k => sumN n fun k' => A i k' * B k' k * C k j := sumN_congr fun k _ => sumN_mulR.symm
  have e2 : (sumN n fun k => A i k * sumN n fun k' => B k k' * C k' j) = sumN n fun k => sumN n fun k' => A i k * (B k k' * C k' j) := sumN_congr fun k _ => sumN_mul.symm
  rw [e1, e2, sumN_comm]
  exact sumN_congr fun k _ => sumN_congr fun k' _ => Int.mul_assoc _ _ _
theorem mulT_congr {n : Nat} {A B C D : Tb} (h : EqT n A C) (g : EqT n B D) : EqT n (mulT n A B) (mulT n C D) := fun i j hi hj => sumN_congr fun k hk => by rw [h i k hi hk, g k j hk hj]
theorem mulT_unitL {n : Nat} {A : Tb} : EqT n (mulT n unitT A) A := fun i j hi hj => by
  show (sumN n fun k => (if i = k then 1 else 0) * A k j) = A i j
  rw [sumN_one hi fun k _ ne => by rw [if_neg (fun e => ne e.symm), Int.zero_mul], if_pos rfl, Int.one_mul]
theorem mulT_unitR {n : Nat} {A : Tb} : EqT n (mulT n A unitT) A := fun i j hi hj => by
  show (sumN n fun k => A i k * (if k = j then 1 else 0)) = A i j
  rw [sumN_one hj fun k _ ne => by rw [if_neg ne, Int.mul_zero], if_pos rfl, Int.mul_one]
theorem EqT.refl {n : Nat} {A : Tb} : EqT n A A := fun _ _ _ _ => rfl
theorem EqT.symm {n : Nat} {A B : Tb} (h : EqT n A B) : EqT n B A := fun i j hi hj => (h i j hi hj).symm
theorem EqT.trans {n : Nat} {A B C : Tb} (h : EqT n A B) (g : EqT n B C) : EqT n A C := fun i j hi hj => (h i j hi hj).trans (g i j hi hj)

def sumsStep (n : Nat) (one other : Tb) (a k : Nat) (r : Vec) (j : Nat) : Vec :=
  let r1 := upd r (n * a + j) (r (n * a + j) + one j k)
  upd r1 (n * j + k) (r1 (n * j + k) - other a j)
def sumsRow (n : Nat) (one other : Tb) (a k : Nat) : Vec := (List.range n).foldl (sumsStep n one other a k) fun _ => 0
theorem sumsRow_eq {n : Nat} {one other : Tb} {a k : Nat} (q : Nat) : sumsRow n one other a k q = sumN n fun j => (if q = n * a + j then one j k else 0) - (if q = n * j + k then other a j else 0) := by
  unfold sumsRow
  have key : ∀ m, ((List.range m).foldl (sumsStep n one other a k) fun _ => 0) q = sumN m fun j => (if q = n * a + j then one j k else 0) - (if q = n * j + k then other a j else 0) := by
    intro m
    induction m with
    | zero => rfl
    | succ m ih =>
      rw [List.range_succ, List.foldl_append]
      simp only [List.foldl_cons, List.foldl_nil, sumN]
      rw [← ih]
      generalize (List.range m).foldl (sumsStep n one other a k) (fun _ => 0) = r
      unfold sumsStep upd
      by_cases h1 : q = n * a + m
      · by_cases h2 : q = n * m + k
        · have h3 : n * m + k = n * a + m := by omega
          simp only [h1, h3, if_true]
          omega
        · have h3 : ¬ (n * a + m = n * m + k) := by omega
          simp only [h1, h3, if_true, if_false]
          omega
      · by_cases h2 : q = n * m + k
        · have h3 : ¬ (n * m + k = n * a + m) := by omega
          simp only [h2, h3, if_true, if_false]
          omega
        · simp only [h1, h2, if_false]
          omega
  exact key n
theorem ix_lt {n i j : Nat} (hi : i < n) (hj : j < n) : n * i + j < n * n := by
  have : n * (i + 1) ≤ n * n := Nat.mul_le_mul_left n hi
  rw [Nat.mul_succ] at this
  omega
/-- what the row says of a table -/
theorem sumsRow_dot {n : Nat} {one other : Tb} {a k : Nat} (ha : a < n) (hk : k < n) (x : Vec) : dot (n * n) (sumsRow n one other a k) x = mulT n (tabOf n x) one a k - mulT n other (tabOf n x) a k := by
  unfold dot mulT tabOf
  rw [← sumN_sub]
  have e1 : (sumN (n * n) fun q => sumsRow n one other a k q * x q) = sumN (n * n) fun q => sumN n fun j => ((if q = n * a + j then one j k else 0) - (if q = n * j + k then other a j else 0)) * x q := sumN_congr fun q _ => by rw [sumsRow_eq, ← sumN_mulR]
  rw [e1, sumN_comm]
  refine sumN_congr fun j hj => ?_
  have e2 : (sumN (n * n) fun q => ((if q = n * a + j then one j k else 0) - (if q = n * j + k then other a j else 0)) * x q) = (sumN (n * n) fun q => (if q = n * a + j then one j k else 0) * x q) - sumN (n * n) fun q => (if q = n * j + k then other a j else 0) * x q := by
    rw [← sumN_sub]
    exact sumN_congr fun q _ => Int.sub_mul _ _ _
  rw [e2, sumN_one (ix_lt ha hj) fun q _ ne => by rw [if_neg ne, Int.zero_mul], sumN_one (ix_lt hj hk) fun q _ ne => by rw [if_neg ne, Int.zero_mul], if_pos rfl, if_pos rfl, Int.mul_comm (one j k)]
theorem sumsRow_le {n B : Nat} {one other : Tb} {a k : Nat} (ha : a < n) (hk : k < n) (h1 : ∀ i j, i < n → j < n → (one i j).natAbs ≤ B) (h2 : ∀ i j, i < n → j < n → (other i j).natAbs ≤ B) (q : Nat) : (sumsRow n one other a k q).natAbs ≤ 2 * B := by
  rw [sumsRow_eq, sumN_sub]
  have b1 : (sumN n fun j => if q = n * a + j then one j k else 0).natAbs ≤ B := by
    by_cases e : ∃ j, j < n ∧ q = n * a + j
    · obtain ⟨j, hj, e⟩ := e
      rw [sumN_one hj fun i _ ne => if_neg (by omega), if_pos e]
      exact h1 j k hj hk
    · rw [sumN_zero fun j hj => if_neg fun z => e ⟨j, hj, z⟩]
      exact Nat.zero_le _
  have b2 : (sumN n fun j => if q = n * j + k then other a j else 0).natAbs ≤ B := by
    by_cases e : ∃ j, j < n ∧ q = n * j + k
    · obtain ⟨j, hj, e⟩ := e
      rw [sumN_one hj fun i _ ne => if_neg fun z => ne (by
        have : n * i = n * j := by omega
        exact Nat.eq_of_mul_eq_mul_left (by omega) this), if_pos e]
      exact h2 a j ha hj
    · rw [sumN_zero fun j hj => if_neg fun z => e ⟨j, hj, z⟩]
      exact Nat.zero_le _
  have := Int.natAbs_sub_le (sumN n fun j => if q = n * a + j then one j k else 0) (sumN n fun j => if q = n * j + k then other a j else 0)
  omega
def sumsFor (n : Nat) (one other : Tb) : List Vec := (List.range n).flatMap fun a => (List.range n).map fun k => sumsRow n one other a k
def condRows (n : Nat) (Ts Os : List Tb) : List Vec := (Ts.zip Os).flatMap fun p => sumsFor n p.1 p.2
theorem mem_sumsFor {n : Nat} {one other : Tb} {r : Vec} : r ∈ sumsFor n one other ↔ ∃ a k, a < n ∧ k < n ∧ r = sumsRow n one other a k := by
  unfold sumsFor
  rw [List.mem_flatMap]
  constructor
  · rintro ⟨a, ha, h⟩
    obtain ⟨k, hk, rfl⟩ := List.mem_map.mp h
    exact ⟨a, k, List.mem_range.mp ha, List.mem_range.mp hk, rfl⟩
  · rintro ⟨a, k, ha, hk, rfl⟩
    exact ⟨a, List.mem_range.mpr ha, List.mem_map.mpr ⟨k, List.mem_range.mpr hk, rfl⟩⟩
/-- X is a change between the tables -/
def Chg (n : Nat) (Ts Os : List Tb) (X : Tb) : Prop := ∀ p ∈ Ts.zip Os, EqT n (mulT n X p.1) (mulT n p.2 X)
theorem cond_iff {n : Nat} {Ts Os : List Tb} {x : Vec} : (∀ r ∈ condRows n Ts Os, dot (n * n) r x = 0) ↔ Chg n Ts Os (tabOf n x) := by
  constructor
  · intro h p hp i j hi hj
    have := h (sumsRow n p.1 p.2 i j) (List.mem_flatMap.mpr ⟨p, hp, mem_sumsFor.mpr ⟨i, j, hi, hj, rfl⟩⟩)
    rw [sumsRow_dot hi hj] at this
    omega
  · intro h r hr
    obtain ⟨p, hp, hr⟩ := List.mem_flatMap.mp hr
    obtain ⟨a, k, ha, hk, rfl⟩ := mem_sumsFor.mp hr
    rw [sumsRow_dot ha hk, h p hp a k ha hk]
    omega
theorem tab_flat {n : Nat} {X : Tb} : EqT n (tabOf n (flatOf n X)) X := fun i j hi hj => by
  show X ((n * i + j) / n) ((n * i + j) % n) = X i j
  rw [Nat.mul_add_div (by omega), Nat.div_eq_of_lt hj, Nat.mul_add_mod, Nat.mod_eq_of_lt hj]
  rfl
theorem chg_congr {n : Nat} {Ts Os : List Tb} {X Y : Tb} (e : EqT n X Y) (h : Chg n Ts Os X) : Chg n Ts Os Y := fun p hp => (mulT_congr e.symm .refl).trans ((h p hp).trans (mulT_congr .refl e))
theorem cond_flat {n : Nat} {Ts Os : List Tb} {X : Tb} (h : Chg n Ts Os X) : ∀ r ∈ condRows n Ts Os, dot (n * n) r (flatOf n X) = 0 := cond_iff.mpr (chg_congr tab_flat.symm h)
theorem cond_bits {n : Nat} {Ts Os : List Tb} (h1 : ∀ T ∈ Ts, ∀ i j, i < n → j < n → (T i j).natAbs ≤ 7000) (h2 : ∀ T ∈ Os, ∀ i j, i < n → j < n → (T i j).natAbs ≤ 7000) : ∀ r ∈ condRows n Ts Os, Bt (n * n) 14 r := fun r hr q _ => by
  obtain ⟨p, hp, hr⟩ := List.mem_flatMap.mp hr
  obtain ⟨a, k, ha, hk, rfl⟩ := mem_sumsFor.mp hr
  obtain ⟨m1, m2⟩ := List.of_mem_zip hp
  have := sumsRow_le ha hk (h1 _ m1) (h2 _ m2) q
  omega

def det (n : Nat) (T : Tb) : Int := match n with
  | 1 => T 0 0
  | 2 => T 0 0 * T 1 1 - T 0 1 * T 1 0
  | 3 => T 0 0 * (T 1 1 * T 2 2 - T 1 2 * T 2 1) - T 0 1 * (T 1 0 * T 2 2 - T 1 2 * T 2 0) + T 0 2 * (T 1 0 * T 2 1 - T 1 1 * T 2 0)
  | _ => 0
def rowsOf (n : Nat) (T : Tb) : List Vec := (List.range n).map T
theorem triv_iff {n : Nat} {T : Tb} : Trivial n (rowsOf n T) ↔ ∀ x : Vec, (∀ i, i < n → dot n (T i) x = 0) → ∀ j, j < n → x j = 0 := by
  unfold Trivial rowsOf
  constructor
  · intro h x hx
    exact h x fun r hr => by
      obtain ⟨i, hi, rfl⟩ := List.mem_map.mp hr
      exact hx i (List.mem_range.mp hi)
  · intro h x hx
    exact h x fun i hi => hx _ (List.mem_map.mpr ⟨i, List.mem_range.mpr hi, rfl⟩)
theorem det_triv {n : Nat} {T : Tb} (hn : n = 1 ∨ n = 2 ∨ n = 3) : Trivial n (rowsOf n T) ↔ det n T ≠ 0 := by
  rw [triv_iff]
  rcases hn with rfl | rfl | rfl
  · constructor
    · intro h z
      have := h (fun _ => 1) (fun i hi => by
        have : i = 0 := by omega
        subst this
        show 0 + T 0 0 * 1 = 0
        rw [show T 0 0 = 0 from z]; rfl) 0 (by omega)
      cases this
    · intro h x hx j hj
      have : j = 0 := by omega
      subst this
      have := hx 0 (by omega)
      have e : 0 + T 0 0 * x 0 = 0 := this
      rw [Int.zero_add] at e
      exact (Int.mul_eq_zero.mp e).resolve_left h
  · constructor
    · intro h z
      have z : T 0 0 * T 1 1 - T 0 1 * T 1 0 = 0 := z
      have z2 : T 0 0 = 0 ∧ T 0 1 = 0 := by
        have := h (fun j => if j = 0 then - T 0 1 else T 0 0) (fun i hi => by
          have : i = 0 ∨ i = 1 := by omega
          rcases this with rfl | rfl
          · show 0 + T 0 0 * (- T 0 1) + T 0 1 * T 0 0 = 0
            grind
          · show 0 + T 1 0 * (- T 0 1) + T 1 1 * T 0 0 = 0
            grind)
        have a := this 0 (by omega)
        have b := this 1 (by omega)
        simp at a b
        exact ⟨b, a⟩
      have z3 : T 1 0 = 0 ∧ T 1 1 = 0 := by
        have := h (fun j => if j = 0 then - T 1 1 else T 1 0) (fun i hi => by
          have : i = 0 ∨ i = 1 := by omega
          rcases this with rfl | rfl
          · show 0 + T 0 0 * (- T 1 1) + T 0 1 * T 1 0 = 0
            grind
          · show 0 + T 1 0 * (- T 1 1) + T 1 1 * T 1 0 = 0
            grind)
        have a := this 0 (by omega)
        have b := this 1 (by omega)
        simp at a b
        exact ⟨b, a⟩
      have := h (fun _ => 1) (fun i hi => by
        have : i = 0 ∨ i = 1 := by omega
        rcases this with rfl | rfl
        · show 0 + T 0 0 * 1 + T 0 1 * 1 = 0
          rw [z2.1, z2.2]; rfl
        · show 0 + T 1 0 * 1 + T 1 1 * 1 = 0
          rw [z3.1, z3.2]; rfl) 0 (by omega)
      cases this
    · intro h x hx j hj
      have h : T 0 0 * T 1 1 - T 0 1 * T 1 0 ≠ 0 := h
      have e0 : 0 + T 0 0 * x 0 + T 0 1 * x 1 = 0 := hx 0 (by omega)
      have e1 : 0 + T 1 0 * x 0 + T 1 1 * x 1 = 0 := hx 1 (by omega)
      have : j = 0 ∨ j = 1 := by omega
      rcases this with rfl | rfl
      · have : (T 0 0 * T 1 1 - T 0 1 * T 1 0) * x 0 = 0 := by grind
        exact (Int.mul_eq_zero.mp this).resolve_left h
      · have : (T 0 0 * T 1 1 - T 0 1 * T 1 0) * x 1 = 0 := by grind
        exact (Int.mul_eq_zero.mp this).resolve_left h
  · constructor
    · intro h z
      have z : T 0 0 * (T 1 1 * T 2 2 - T 1 2 * T 2 1) - T 0 1 * (T 1 0 * T 2 2 - T 1 2 * T 2 0) + T 0 2 * (T 1 0 * T 2 1 - T 1 1 * T 2 0) = 0 := z
      -- two rows' cross product solves
      let mk : Int → Int → Int → Vec := fun a b c j => if j = 0 then a else if j = 1 then b else c
      have use : ∀ a b c : Int, (T 0 0 * a + T 0 1 * b + T 0 2 * c = 0) → (T 1 0 * a + T 1 1 * b + T 1 2 * c = 0) → (T 2 0 * a + T 2 1 * b + T 2 2 * c = 0) → a = 0 ∧ b = 0 ∧ c = 0 := fun a b c h0 h1 h2 => by
        have := h (mk a b c) (fun i hi => by
          have : i = 0 ∨ i = 1 ∨ i = 2 := by omega
          rcases this with rfl | rfl | rfl
          · show 0 + T 0 0 * a + T 0 1 * b + T 0 2 * c = 0
            rw [Int.zero_add]; exact h0
          · show 0 + T 1 0 * a + T 1 1 * b + T 1 2 * c = 0
            rw [Int.zero_add]; exact h1
          · show 0 + T 2 0 * a + T 2 1 * b + T 2 2 * c = 0
            rw [Int.zero_add]; exact h2)
        exact ⟨this 0 (by omega), this 1 (by omega), this 2 (by omega)⟩
      obtain ⟨a1, a2, a3⟩ := use (T 0 1 * T 1 2 - T 0 2 * T 1 1) (T 0 2 * T 1 0 - T 0 0 * T 1 2) (T 0 0 * T 1 1 - T 0 1 * T 1 0) (by grind) (by grind) (by grind)
      obtain ⟨b1, b2, b3⟩ := use (T 0 1 * T 2 2 - T 0 2 * T 2 1) (T 0 2 * T 2 0 - T 0 0 * T 2 2) (T 0 0 * T 2 1 - T 0 1 * T 2 0) (by grind) (by grind) (by grind)
      obtain ⟨c1, c2, c3⟩ := use (T 1 1 * T 2 2 - T 1 2 * T 2 1) (T 1 2 * T 2 0 - T 1 0 * T 2 2) (T 1 0 * T 2 1 - T 1 1 * T 2 0) (by grind) (by grind) (by grind)
      have all : ∀ p q r : Int, (T 0 0 * q - T 0 1 * p = 0 ∧ T 0 1 * r - T 0 2 * q = 0 ∧ T 0 0 * r - T 0 2 * p = 0) → (T 1 0 * q - T 1 1 * p = 0 ∧ T 1 1 * r - T 1 2 * q = 0 ∧ T 1 0 * r - T 1 2 * p = 0) → (T 2 0 * q - T 2 1 * p = 0 ∧ T 2 1 * r - T 2 2 * q = 0 ∧ T 2 0 * r - T 2 2 * p = 0) → p = 0 ∧ q = 0 ∧ r = 0 := fun p q r h0 h1 h2 => by
        have x1 := use q (-p) 0 (by grind) (by grind) (by grind)
        have x2 := use 0 r (-q) (by grind) (by grind) (by grind)
        refine ⟨by omega, x1.1, x2.2.1⟩
      have r0 := all (T 0 0) (T 0 1) (T 0 2) ⟨by grind, by grind, by grind⟩ ⟨by grind, by grind, by grind⟩ ⟨by grind, by grind, by grind⟩
      have r1 := all (T 1 0) (T 1 1) (T 1 2) ⟨by grind, by grind, by grind⟩ ⟨by grind, by grind, by grind⟩ ⟨by grind, by grind, by grind⟩
      have r2 := all (T 2 0) (T 2 1) (T 2 2) ⟨by grind, by grind, by grind⟩ ⟨by grind, by grind, by grind⟩ ⟨by grind, by grind, by grind⟩
      have := use 1 1 1 (by rw [r0.1, r0.2.1, r0.2.2]; rfl) (by rw [r1.1, r1.2.1, r1.2.2]; rfl) (by rw [r2.1, r2.2.1, r2.2.2]; rfl)
      exact absurd this.1 (by decide)
    · intro h x hx j hj
      have h : T 0 0 * (T 1 1 * T 2 2 - T 1 2 * T 2 1) - T 0 1 * (T 1 0 * T 2 2 - T 1 2 * T 2 0) + T 0 2 * (T 1 0 * T 2 1 - T 1 1 * T 2 0) ≠ 0 := h
      have e0 : 0 + T 0 0 * x 0 + T 0 1 * x 1 + T 0 2 * x 2 = 0 := hx 0 (by omega)
      have e1 : 0 + T 1 0 * x 0 + T 1 1 * x 1 + T 1 2 * x 2 = 0 := hx 1 (by omega)
      have e2 : 0 + T 2 0 * x 0 + T 2 1 * x 1 + T 2 2 * x 2 = 0 := hx 2 (by omega)
      generalize hd : T 0 0 * (T 1 1 * T 2 2 - T 1 2 * T 2 1) - T 0 1 * (T 1 0 * T 2 2 - T 1 2 * T 2 0) + T 0 2 * (T 1 0 * T 2 1 - T 1 1 * T 2 0) = d at h
      have : j = 0 ∨ j = 1 ∨ j = 2 := by omega
      rcases this with rfl | rfl | rfl
      · have : d * x 0 = 0 := by grind
        exact (Int.mul_eq_zero.mp this).resolve_left h
      · have : d * x 1 = 0 := by grind
        exact (Int.mul_eq_zero.mp this).resolve_left h
      · have : d * x 2 = 0 := by grind
        exact (Int.mul_eq_zero.mp this).resolve_left h
theorem det_congr {n : Nat} {A B : Tb} (e : EqT n A B) : det n A = det n B := by
  unfold det
  split
  · exact e 0 0 (by omega) (by omega)
  · rw [e 0 0 (by omega) (by omega), e 0 1 (by omega) (by omega), e 1 0 (by omega) (by omega), e 1 1 (by omega) (by omega)]
  · rw [e 0 0 (by omega) (by omega), e 0 1 (by omega) (by omega), e 0 2 (by omega) (by omega), e 1 0 (by omega) (by omega), e 1 1 (by omega) (by omega), e 1 2 (by omega) (by omega), e 2 0 (by omega) (by omega), e 2 1 (by omega) (by omega), e 2 2 (by omega) (by omega)]
  · rfl
theorem det_mul {n : Nat} {A : Tb} {N : Int} : det n (fun i j => N * A i j) = N ^ n * det n A := by
  unfold det
  split
  · grind
  · grind
  · grind
  · simp
theorem det_inv {n : Nat} {A B : Tb} (hn : n = 1 ∨ n = 2 ∨ n = 3) (h : EqT n (mulT n B A) unitT) : det n A ≠ 0 := by
  rw [← det_triv hn, triv_iff]
  intro x hx j hj
  -- x = B (A x) = 0
  have e : (sumN n fun k => B j k * dot n (A k) x) = x j := by
    have e1 : (sumN n fun k => B j k * dot n (A k) x) = sumN n fun k => sumN n fun l => B j k * (A k l * x l) := sumN_congr fun k _ => sumN_mul.symm
    rw [e1, sumN_comm]
    have e2 : (sumN n fun l => sumN n fun k => B j k * (A k l * x l)) = sumN n fun l => unitT j l * x l := sumN_congr fun l hl => by
      rw [← h j l hj hl]
      unfold mulT
      rw [← sumN_mulR]
      exact sumN_congr fun k _ => by rw [Int.mul_assoc]
    rw [e2, sumN_one hj fun l _ ne => by
      show (if j = l then (1 : Int) else 0) * x l = 0
      rw [if_neg (fun e => ne e.symm), Int.zero_mul]]
    show (if j = j then (1 : Int) else 0) * x j = x j
    rw [if_pos rfl, Int.one_mul]
  rw [← e]
  exact sumN_zero fun k hk => by rw [hx k hk, Int.mul_zero]
end La
-- M10
namespace La
abbrev Poly := List (List Nat × Int)
def pget (d : Poly) (k : List Nat) : Int := ((d.find? fun kv => decide (kv.1 = k)).map (·.2)).getD 0
def pput (d : Poly) (k : List Nat) (v : Int) : Poly := if (d.any fun kv => decide (kv.1 = k)) = true then d.map (fun kv => if kv.1 = k then (kv.1, v) else kv) else d ++ [(k, v)]
def padd (d : Poly) (k : List Nat) (c : Int) : Poly := pput d k (pget d k + c)
/-- a weight of the keys, summed -/
def wt (φ : List Nat → Int) : Poly → Int
  | [] => 0
  | kv :: d => kv.2 * φ kv.1 + wt φ d
def Nd (d : Poly) : Prop := (d.map Prod.fst).Nodup
def AllK (p : List Nat → Prop) (d : Poly) : Prop := ∀ kv ∈ d, p kv.1
def nrm : Poly → Nat
  | [] => 0
  | kv :: d => kv.2.natAbs + nrm d
def mon (x : Nat → Int) : List Nat → Int
  | [] => 1
  | i :: k => x i * mon x k
def ev (d : Poly) (x : Nat → Int) : Int := wt (mon x) d
def isort : List Nat → List Nat
  | [] => []
  | a :: l => insN a (isort l)
where insN (a : Nat) : List Nat → List Nat
  | [] => [a]
  | b :: l => if a ≤ b then a :: b :: l else b :: insN a l
section
variable {d e : Poly} {k k' : List Nat} {c v : Int} {φ : List Nat → Int} {x : Nat → Int} {p : List Nat → Prop}
theorem any_mem : (d.any fun kv => decide (kv.1 = k)) = true ↔ k ∈ d.map Prod.fst := by
  rw [List.any_eq_true, List.mem_map]
  constructor
  · rintro ⟨kv, h, q⟩; exact ⟨kv, h, of_decide_eq_true q⟩
  · rintro ⟨kv, h, q⟩; exact ⟨kv, h, decide_eq_true q⟩
theorem pget_not (h : k ∉ d.map Prod.fst) : pget d k = 0 := by
  unfold pget
  rw [List.find?_eq_none.mpr]
  · rfl
  · intro kv hkv q
    exact h (List.mem_map.mpr ⟨kv, hkv, of_decide_eq_true q⟩)
theorem map_fix (h : k ∉ d.map Prod.fst) : d.map (fun kv => if kv.1 = k then (kv.1, v) else kv) = d := by
  induction d with
  | nil => rfl
  | cons a d ih =>
    rw [List.map_cons, List.mem_cons, not_or] at h
    rw [List.map_cons, ih h.2, if_neg (fun z => h.1 z.symm)]
theorem wt_append : wt φ (d ++ e) = wt φ d + wt φ e := by
  induction d with
  | nil => simp [wt]
  | cons a d ih => simp only [List.cons_append, wt]; rw [ih]; omega
theorem wt_pput (h : Nd d) : wt φ (pput d k v) = wt φ d + (v - pget d k) * φ k := by
  unfold pput
  split
  · rename_i q
    have m := any_mem.mp q
    clear q
    induction d with
    | nil => cases m
    | cons a d ih =>
      have nd := List.nodup_cons.mp (show (a.1 :: d.map Prod.fst).Nodup from h)
      by_cases e : a.1 = k
      · rw [List.map_cons, if_pos e, map_fix (by rw [← e]; exact nd.1)]
        have : pget (a :: d) k = a.2 := by unfold pget; rw [List.find?_cons, decide_eq_true e]; rfl
        rw [this]
        simp only [wt]
        rw [e]
        grind
      · have m2 : k ∈ d.map Prod.fst := by
          rw [List.map_cons] at m
          exact (List.mem_cons.mp m).resolve_left fun z => e z.symm
        rw [List.map_cons, if_neg e]
        have : pget (a :: d) k = pget d k := by unfold pget; rw [List.find?_cons, decide_eq_false e]
        rw [this]
        simp only [wt]
        rw [ih nd.2 m2]
        omega
  · rename_i q
    have m : k ∉ d.map Prod.fst := fun z => q (any_mem.mpr z)
    rw [wt_append, pget_not m]
    simp [wt]
theorem wt_padd (h : Nd d) : wt φ (padd d k c) = wt φ d + c * φ k := by
  unfold padd
  rw [wt_pput h]
  congr 2
  omega
theorem keys_pput : (pput d k v).map Prod.fst = if k ∈ d.map Prod.fst then d.map Prod.fst else d.map Prod.fst ++ [k] := by
  unfold pput
  by_cases q : k ∈ d.map Prod.fst
  · rw [if_pos (any_mem.mpr q), if_pos q, List.map_map]
    apply List.map_congr_left
    intro kv _
    show (if kv.1 = k then (kv.1, v) else kv).1 = kv.1
    split <;> rfl
  · rw [if_neg (fun z => q (any_mem.mp z)), if_neg q, List.map_append]
    rfl
theorem nd_padd (h : Nd d) : Nd (padd d k c) := by
  unfold Nd padd
  rw [keys_pput]
  split
  · exact h
  · rename_i q
    rw [List.nodup_append]
    exact ⟨h, by simp, fun a ha b hb e => q (by rw [← List.mem_singleton.mp hb, ← e]; exact ha)⟩
theorem allK_iff : AllK p d ↔ ∀ k ∈ d.map Prod.fst, p k := by
  unfold AllK
  constructor
  · intro h k hk
    obtain ⟨kv, m, e⟩ := List.mem_map.mp hk
    rw [← e]
    exact h kv m
  · intro h kv m
    exact h _ (List.mem_map.mpr ⟨kv, m, rfl⟩)
theorem allK_padd (h : AllK p d) (hk : p k) : AllK p (padd d k c) := by
  rw [allK_iff] at h ⊢
  unfold padd
  rw [keys_pput]
  split
  · exact h
  · intro k' m
    rcases List.mem_append.mp m with q | q
    · exact h k' q
    · rw [List.mem_singleton.mp q]; exact hk
theorem wt_mem (h : Nd d) (m : (k, v) ∈ d) (hφ : ∀ k', k' ∈ d.map Prod.fst → k' ≠ k → φ k' = 0) : wt φ d = v * φ k := by
  induction d with
  | nil => cases m
  | cons a d ih =>
    have nd := List.nodup_cons.mp (show (a.1 :: d.map Prod.fst).Nodup from h)
    simp only [wt]
    by_cases e : a.1 = k
    · have ea : a = (k, v) := by
        rcases List.mem_cons.mp m with q | q
        · exact q.symm
        · exact absurd (List.mem_map.mpr ⟨_, q, e.symm⟩) nd.1
      have z : ∀ d : Poly, (∀ k', k' ∈ d.map Prod.fst → φ k' = 0) → wt φ d = 0 := by
        intro d
        induction d with
        | nil => intro _; rfl
        | cons b d ih2 =>
          intro hz
          simp only [wt]
          rw [ih2 fun k' hk' => hz k' (List.mem_cons_of_mem _ hk'), hz b.1 List.mem_cons_self]
          omega
      rw [z d fun k' hk' => hφ k' (List.mem_cons_of_mem _ hk') (fun q => nd.1 (by rw [e, ← q]; exact hk')), ea]
      exact Int.add_zero _
    · have m2 := (List.mem_cons.mp m).resolve_left fun q => e (by rw [← q])
      rw [ih nd.2 m2 fun k' hk' ne => hφ k' (List.mem_cons_of_mem _ hk') ne, hφ a.1 List.mem_cons_self e]
      omega
theorem nrm_append : nrm (d ++ e) = nrm d + nrm e := by
  induction d with
  | nil => simp [nrm]
  | cons a d ih => simp only [List.cons_append, nrm]; rw [ih]; omega
theorem nrm_pput (h : Nd d) : nrm (pput d k v) + (pget d k).natAbs = nrm d + v.natAbs := by
  unfold pput
  split
  · rename_i q
    have m := any_mem.mp q
    clear q
    induction d with
    | nil => cases m
    | cons a d ih =>
      have nd := List.nodup_cons.mp (show (a.1 :: d.map Prod.fst).Nodup from h)
      by_cases e : a.1 = k
      · rw [List.map_cons, if_pos e, map_fix (by rw [← e]; exact nd.1)]
        have : pget (a :: d) k = a.2 := by unfold pget; rw [List.find?_cons, decide_eq_true e]; rfl
        rw [this]
        simp only [nrm]
        omega
      · have m2 : k ∈ d.map Prod.fst := by
          rw [List.map_cons] at m
          exact (List.mem_cons.mp m).resolve_left fun z => e z.symm
        rw [List.map_cons, if_neg e]
        have : pget (a :: d) k = pget d k := by unfold pget; rw [List.find?_cons, decide_eq_false e]
        rw [this]
        simp only [nrm]
        have := ih nd.2 m2
        omega
  · rename_i q
    have m : k ∉ d.map Prod.fst := fun z => q (any_mem.mpr z)
    rw [nrm_append, pget_not m]
    simp [nrm]
theorem nrm_padd (h : Nd d) : nrm (padd d k c) ≤ nrm d + c.natAbs := by
  have := nrm_pput (k := k) (v := pget d k + c) h
  have := Int.natAbs_add_le (pget d k) c
  unfold padd
  omega
theorem nrm_mem {kv : List Nat × Int} (m : kv ∈ d) : kv.2.natAbs ≤ nrm d := by
  induction d with
  | nil => cases m
  | cons a d ih =>
    simp only [nrm]
    rcases List.mem_cons.mp m with q | q
    · rw [q]; omega
    · have := ih q; omega
theorem nrm_get : (pget d k).natAbs ≤ nrm d := by
  unfold pget
  cases q : d.find? fun kv => decide (kv.1 = k) with
  | none => simp
  | some kv => exact nrm_mem (List.mem_of_find?_eq_some q)
theorem len_padd : (padd d k c).length ≤ d.length + 1 := by
  have := congrArg List.length (keys_pput (d := d) (k := k) (v := pget d k + c))
  unfold padd
  rw [List.length_map] at this
  rw [this]
  split
  · rw [List.length_map]; omega
  · rw [List.length_append, List.length_map]; simp
def dropZ (d : Poly) : Poly := d.filter fun kv => decide (kv.2 ≠ 0)
theorem wt_dropZ : wt φ (dropZ d) = wt φ d := by
  induction d with
  | nil => rfl
  | cons a d ih =>
    unfold dropZ at ih ⊢
    rw [List.filter_cons]
    by_cases q : a.2 = 0
    · rw [if_neg (by simp [q]), ih]; simp only [wt, q]; omega
    · rw [if_pos (by simp [q])]; simp only [wt]; rw [ih]
theorem nd_dropZ (h : Nd d) : Nd (dropZ d) := h.sublist ((List.filter_sublist (l := d)).map Prod.fst)
theorem allK_dropZ (h : AllK p d) : AllK p (dropZ d) := fun kv m => h kv (List.mem_filter.mp m).1
theorem nrm_dropZ : nrm (dropZ d) ≤ nrm d := by
  induction d with
  | nil => exact Nat.le_refl _
  | cons a d ih =>
    unfold dropZ at ih ⊢
    rw [List.filter_cons]
    split
    · simp only [nrm]; omega
    · simp only [nrm]; omega
theorem dropZ_ne {kv : List Nat × Int} (m : kv ∈ dropZ d) : kv.2 ≠ 0 := of_decide_eq_true (List.mem_filter.mp m).2
end
theorem insN_perm {a : Nat} : ∀ {l : List Nat}, (isort.insN a l).Perm (a :: l)
  | [] => .refl _
  | b :: l => by
    simp only [isort.insN]
    split
    · exact .refl _
    · exact (List.Perm.cons b insN_perm).trans (.swap a b l)
theorem isort_perm : ∀ {l : List Nat}, (isort l).Perm l
  | [] => .refl _
  | a :: l => insN_perm.trans (.cons a isort_perm)
theorem insN_sorted {a : Nat} : ∀ {l : List Nat}, l.Pairwise (· ≤ ·) → (isort.insN a l).Pairwise (· ≤ ·)
  | [], _ => .cons (fun _ h => nomatch h) .nil
  | b :: l, h => by
    simp only [isort.insN]
    have hh := h
    cases h with
    | cons h1 h2 =>
    split
    · rename_i le
      exact .cons (fun x hx => by
        rcases List.mem_cons.mp hx with q | q
        · rw [q]; exact le
        · exact Nat.le_trans le (h1 x q)) hh
    · rename_i nle
      exact .cons (fun x hx => by
        rcases List.mem_cons.mp (insN_perm.mem_iff.mp hx) with q | q
        · rw [q]; omega
        · exact h1 x q) (insN_sorted h2)
theorem isort_sorted : ∀ {l : List Nat}, (isort l).Pairwise (· ≤ ·)
  | [] => .nil
  | a :: l => insN_sorted isort_sorted
theorem sorted_uniq {a b : List Nat} (h : a.Perm b) (ha : a.Pairwise (· ≤ ·)) (hb : b.Pairwise (· ≤ ·)) : a = b := h.eq_of_pairwise (fun _ _ _ _ => Nat.le_antisymm) ha hb
theorem mon_perm {x : Nat → Int} {a b : List Nat} (h : a.Perm b) : mon x a = mon x b := by
  induction h with
  | nil => rfl
  | cons _ _ ih => simp only [mon]; rw [ih]
  | swap a b l => simp only [mon]; rw [Int.mul_left_comm]
  | trans _ _ i1 i2 => rw [i1, i2]
theorem mon_append {x : Nat → Int} {a b : List Nat} : mon x (a ++ b) = mon x a * mon x b := by
  induction a with
  | nil => simp [mon]
  | cons i a ih => simp only [List.cons_append, mon]; rw [ih, Int.mul_assoc]
def rest (i : Nat) (k : List Nat) : List Nat := k.filter fun j => decide (j ≠ i)
def exps (i : Nat) (k : List Nat) : Nat := k.length - (rest i k).length
def putSum (P : Poly) (i : Nat) (v : Int) : Poly := P.foldl (fun f kv => padd f (rest i kv.1) (kv.2 * v ^ exps i kv.1)) []
def putInto (P : Poly) (i : Nat) (v : Int) : Poly := dropZ (putSum P i v)
section
variable {P : Poly} {i : Nat} {v : Int} {φ : List Nat → Int} {x : Nat → Int} {p : List Nat → Prop}
theorem put_fold : ∀ {T f : Poly}, Nd f → Nd (T.foldl (fun f kv => padd f (rest i kv.1) (kv.2 * v ^ exps i kv.1)) f) ∧ wt φ (T.foldl (fun f kv => padd f (rest i kv.1) (kv.2 * v ^ exps i kv.1)) f) = wt φ f + wt (fun k => v ^ exps i k * φ (rest i k)) T
  | [], f, h => ⟨h, by simp [wt]⟩
  | a :: T, f, h => by
    rw [List.foldl_cons]
    obtain ⟨h1, h2⟩ := put_fold (T := T) (f := padd f (rest i a.1) (a.2 * v ^ exps i a.1)) (nd_padd h)
    refine ⟨h1, ?_⟩
    rw [h2, wt_padd h]
    simp only [wt]
    rw [Int.mul_assoc, Int.add_assoc]
theorem wt_put : wt φ (putInto P i v) = wt (fun k => v ^ exps i k * φ (rest i k)) P := by
  unfold putInto putSum
  rw [wt_dropZ, (put_fold (T := P) (f := []) List.nodup_nil).2]
  simp [wt]
theorem nd_put : Nd (putInto P i v) := nd_dropZ (put_fold (φ := fun _ => 0) (T := P) (f := []) List.nodup_nil).1
theorem allK_put (h : AllK (fun k => p (rest i k)) P) : AllK p (putInto P i v) := by
  refine allK_dropZ ?_
  have key : ∀ {T f : Poly}, AllK p f → AllK (fun k => p (rest i k)) T → AllK p (T.foldl (fun f kv => padd f (rest i kv.1) (kv.2 * v ^ exps i kv.1)) f) := by
    intro T
    induction T with
    | nil => intro f h _; exact h
    | cons a T ih =>
      intro f h hT
      rw [List.foldl_cons]
      exact ih (allK_padd h (hT a List.mem_cons_self)) fun kv m => hT kv (List.mem_cons_of_mem _ m)
  exact key (fun _ m => nomatch m) h
theorem nrm_put {b : Nat} (hv : ∀ k ∈ P.map Prod.fst, (v ^ exps i k).natAbs ≤ b) : nrm (putSum P i v) ≤ b * nrm P := by
  have key : ∀ {T f : Poly}, Nd f → (∀ k ∈ T.map Prod.fst, (v ^ exps i k).natAbs ≤ b) → nrm (T.foldl (fun f kv => padd f (rest i kv.1) (kv.2 * v ^ exps i kv.1)) f) ≤ nrm f + b * nrm T := by
    intro T
    induction T with
    | nil => intro f _ _; exact Nat.le_add_right _ _
    | cons a T ih =>
      intro f h hT
      rw [List.foldl_cons]
      have h1 := ih (f := padd f (rest i a.1) (a.2 * v ^ exps i a.1)) (nd_padd h) fun k m => hT k (List.mem_cons_of_mem _ m)
      have h2 := nrm_padd (k := rest i a.1) (c := a.2 * v ^ exps i a.1) h
      rw [Int.natAbs_mul] at h2
      have h3 : a.2.natAbs * (v ^ exps i a.1).natAbs ≤ a.2.natAbs * b := Nat.mul_le_mul_left _ (hT a.1 List.mem_cons_self)
      simp only [nrm]
      rw [Nat.mul_add]
      rw [Nat.mul_comm b a.2.natAbs]
      omega
  have := key (T := P) (f := []) List.nodup_nil hv
  unfold putSum
  simpa [nrm] using this
theorem mon_rest {k : List Nat} : mon x k = x i ^ exps i k * mon x (rest i k) := by
  have le : ∀ k : List Nat, (rest i k).length ≤ k.length := fun k => List.length_filter_le _ _
  induction k with
  | nil => simp [exps, rest, mon]
  | cons j k ih =>
    have l := le k
    by_cases q : j = i
    · have e1 : rest i (j :: k) = rest i k := by unfold rest; rw [List.filter_cons, if_neg (by simp [q])]
      have e2 : exps i (j :: k) = exps i k + 1 := by unfold exps; rw [e1, List.length_cons]; omega
      rw [e1, e2]
      simp only [mon]
      rw [ih, q, Int.pow_succ]
      grind
    · have e1 : rest i (j :: k) = j :: rest i k := by unfold rest; rw [List.filter_cons, if_pos (by simp [q])]
      have e2 : exps i (j :: k) = exps i k := by unfold exps; rw [e1, List.length_cons, List.length_cons]; omega
      rw [e1, e2]
      simp only [mon]
      rw [ih]
      grind
theorem ev_put (hx : x i = v) : ev (putInto P i v) x = ev P x := by
  unfold ev
  rw [wt_put]
  congr 1
  funext k
  rw [mon_rest (i := i) (x := x) (k := k), hx]
/-- a polynomial as it is kept -/
structure Canon (n : Nat) (P : Poly) : Prop where
  nd : Nd P
  srt : AllK (fun k => k.Pairwise (· ≤ ·)) P
  len : AllK (fun k => k.length ≤ n) P
  ne : ∀ kv ∈ P, kv.2 ≠ 0
theorem canon_put {n : Nat} (h : Canon n P) : Canon n (putInto P i v) := ⟨nd_put, allK_put fun kv m => List.Pairwise.sublist List.filter_sublist (h.srt kv m), allK_put fun kv m => Nat.le_trans (List.length_filter_le _ _) (h.len kv m), fun kv m => dropZ_ne m⟩
/-- the parts of one rest, by the exponent -/
theorem wt_split {n : Nat} {g : Nat → Int} {q : List Nat → Bool} (h : AllK (fun k => k.length ≤ n) P) : wt (fun k => g (exps i k) * (if q k then 1 else 0)) P = sumN (n + 1) fun m => g m * wt (fun k => if q k && decide (exps i k = m) then 1 else 0) P := by
  induction P with
  | nil => simp only [wt]; rw [sumN_zero fun _ _ => Int.mul_zero _]
  | cons a P ih =>
    simp only [wt]
    rw [ih fun kv m => h kv (List.mem_cons_of_mem _ m)]
    have le : exps i a.1 < n + 1 := by
      have := h a List.mem_cons_self
      unfold exps
      omega
    have e : a.2 * (g (exps i a.1) * if q a.1 = true then 1 else 0) = sumN (n + 1) fun m => g m * (a.2 * if (q a.1 && decide (exps i a.1 = m)) = true then 1 else 0) := by
      rw [sumN_one le fun m _ ne => by rw [decide_eq_false (fun z => ne z.symm)]; simp]
      simp
      grind
    rw [e, ← sumN_add]
    exact sumN_congr fun m _ => by rw [Int.mul_add]
theorem vander {n : Nat} (hn : n = 1 ∨ n = 2 ∨ n = 3) (A : Nat → Int) (h : ∀ v : Nat, v ≤ n → sumN (n + 1) (fun m => (v : Int) ^ m * A m) = 0) : ∀ m, m ≤ n → A m = 0 := by
  rcases hn with rfl | rfl | rfl
  · have h0 := h 0 (by omega)
    have h1 := h 1 (by omega)
    simp [sumN] at h0 h1
    intro m hm
    have : m = 0 ∨ m = 1 := by omega
    rcases this with rfl | rfl <;> omega
  · have h0 := h 0 (by omega)
    have h1 := h 1 (by omega)
    have h2 := h 2 (by omega)
    simp [sumN] at h0 h1 h2
    intro m hm
    have : m = 0 ∨ m = 1 ∨ m = 2 := by omega
    rcases this with rfl | rfl | rfl <;> omega
  · have h0 := h 0 (by omega)
    have h1 := h 1 (by omega)
    have h2 := h 2 (by omega)
    have h3 := h 3 (by omega)
    simp [sumN] at h0 h1 h2 h3
    intro m hm
    have : m = 0 ∨ m = 1 ∨ m = 2 ∨ m = 3 := by omega
    rcases this with rfl | rfl | rfl | rfl <;> omega
theorem rest_uniq {a b : List Nat} (ha : a.Pairwise (· ≤ ·)) (hb : b.Pairwise (· ≤ ·)) (h1 : rest i a = rest i b) (h2 : exps i a = exps i b) : a = b := by
  have le : ∀ k : List Nat, (rest i k).length ≤ k.length := fun k => List.length_filter_le _ _
  have hl : a.length = b.length := by
    have x := le a
    have y := le b
    unfold exps at h2
    rw [h1] at h2 x
    omega
  refine sorted_uniq (List.perm_iff_count.mpr fun c => ?_) ha hb
  have cnt : ∀ k : List Nat, k.count i + (rest i k).length = k.length := fun k => by
    induction k with
    | nil => rfl
    | cons j k ih =>
      unfold rest at ih ⊢
      rw [List.count_cons, List.filter_cons]
      by_cases q : j = i
      · simp [q]; simp at ih; omega
      · simp [q]; simp at ih; omega
  have oth : ∀ k : List Nat, ∀ c, c ≠ i → (rest i k).count c = k.count c := fun k c hc => by
    unfold rest
    rw [List.count_filter]
    simp [hc]
  by_cases q : c = i
  · rw [q]
    have x := cnt a
    have y := cnt b
    rw [h1] at x
    omega
  · rw [← oth a c q, ← oth b c q, h1]
/-- some value leaves something -/
theorem put_some {n : Nat} (hn : n = 1 ∨ n = 2 ∨ n = 3) (h : Canon n P) (ne : P ≠ []) (i : Nat) : ∃ v : Nat, v ≤ n ∧ putInto P i (v : Int) ≠ [] := by
  apply Classical.byContradiction
  intro no
  obtain ⟨kv, m⟩ : ∃ kv, kv ∈ P := by
    cases P with
    | nil => exact absurd rfl ne
    | cons a t => exact ⟨a, List.mem_cons_self⟩
  have z : ∀ v : Nat, v ≤ n → sumN (n + 1) (fun m => (v : Int) ^ m * wt (fun k => if decide (rest i k = rest i kv.1) && decide (exps i k = m) then 1 else 0) P) = 0 := fun v hv => by
    have e : putInto P i (v : Int) = [] := Classical.byContradiction fun q => no ⟨v, hv, q⟩
    have w := wt_put (P := P) (i := i) (v := (v : Int)) (φ := fun k => if decide (k = rest i kv.1) then 1 else 0)
    rw [e] at w
    rw [← wt_split (i := i) (g := fun m => (v : Int) ^ m) (q := fun k => decide (rest i k = rest i kv.1)) h.len]
    exact w.symm
  have A := vander hn _ z (exps i kv.1) (by
    have := h.len kv m
    unfold exps
    omega)
  have B := wt_mem (k := kv.1) (v := kv.2) (φ := fun k => if decide (rest i k = rest i kv.1) && decide (exps i k = exps i kv.1) then 1 else 0) h.nd m (fun k' hk' ne => by
    rw [if_neg]
    intro q
    simp only [Bool.and_eq_true, decide_eq_true_eq] at q
    obtain ⟨kv', m', e'⟩ := List.mem_map.mp hk'
    rw [← e'] at q ne
    exact ne (rest_uniq (h.srt kv' m') (h.srt kv m) q.1 q.2))
  rw [B] at A
  simp at A
  exact h.ne kv m A
end
end La
-- M11
namespace La
def tbl (Ts : List Tb) (t : Nat) : Tb := Ts.getD t fun _ _ => 0
def addedM (p more : Poly) (Ts : List Tb) (a k : Nat) (sign : Int) : Poly :=
  more.foldl (fun p kv => (List.range Ts.length).foldl (fun p t => if tbl Ts t a k ≠ 0 then padd p (isort (kv.1 ++ [t])) (sign * kv.2 * tbl Ts t a k) else p) p) p
abbrev PState := List (List Nat × Poly)
def sget (d : PState) (k : List Nat) : Poly := ((d.find? fun kv => decide (kv.1 = k)).map (·.2)).getD []
def sput (d : PState) (k : List Nat) (v : Poly) : PState := if (d.any fun kv => decide (kv.1 = k)) = true then d.map (fun kv => if kv.1 = k then (kv.1, v) else kv) else d ++ [(k, v)]
def signOf (taken : List Nat) (k : Nat) : Int := if (taken.filter fun o => decide (o > k)).length % 2 = 1 then -1 else 1
def detCell (Ts : List Tb) (a : Nat) (taken : List Nat) (P : Poly) (later : PState) (k : Nat) : PState :=
  sput later (isort (taken ++ [k])) (addedM (sget later (isort (taken ++ [k]))) P Ts a k (signOf taken k))
def detRow (n : Nat) (Ts : List Tb) (a : Nat) (states : PState) : PState :=
  states.foldl (fun later kv => ((List.range n).filter fun k => decide (k ∉ kv.1)).foldl (detCell Ts a kv.1 kv.2) later) []
def detStates (n : Nat) (Ts : List Tb) (a : Nat) : PState := (List.range a).foldl (fun st a => detRow n Ts a st) [([], [([], 1)])]
def detM (n : Nat) (Ts : List Tb) : Poly := dropZ (sget (detStates n Ts n) (List.range n))
def summedT (Ts : List Tb) (x : Nat → Int) : Tb := fun i j => sumN Ts.length fun t => x t * tbl Ts t i j
section
variable {p more P : Poly} {Ts : List Tb} {a k : Nat} {sign : Int} {x : Nat → Int} {φ : List Nat → Int}
/-- what an inner loop keeps -/
structure PF (V c : Nat) (p : Poly) : Prop where
  nd : Nd p
  srt : AllK (fun k => k.Pairwise (· ≤ ·)) p
  len : AllK (fun k => k.length ≤ c) p
  var : AllK (fun k => ∀ j ∈ k, j < V) p
def Mo (V c : Nat) (p : Poly) : Prop := AllK (fun k => k.length + 1 ≤ c ∧ ∀ j ∈ k, j < V) p
theorem added_in {kv : List Nat × Int} {c : Nat} (hl : kv.1.length + 1 ≤ c ∧ ∀ j ∈ kv.1, j < Ts.length) : ∀ (n : Nat) {p : Poly}, n ≤ Ts.length → PF Ts.length c p → PF Ts.length c ((List.range n).foldl (fun p t => if tbl Ts t a k ≠ 0 then padd p (isort (kv.1 ++ [t])) (sign * kv.2 * tbl Ts t a k) else p) p) ∧
    wt φ ((List.range n).foldl (fun p t => if tbl Ts t a k ≠ 0 then padd p (isort (kv.1 ++ [t])) (sign * kv.2 * tbl Ts t a k) else p) p) = wt φ p + sumN n fun t => sign * kv.2 * tbl Ts t a k * φ (isort (kv.1 ++ [t]))
  | 0, p, _, h => ⟨h, by simp [sumN]⟩
  | n + 1, p, hn, h => by
    obtain ⟨h1, h2⟩ := added_in hl n (by omega) h
    rw [List.range_succ, List.foldl_append]
    simp only [List.foldl_cons, List.foldl_nil, sumN]
    rw [← Int.add_assoc, ← h2]
    generalize (List.range n).foldl (fun p t => if tbl Ts t a k ≠ 0 then padd p (isort (kv.1 ++ [t])) (sign * kv.2 * tbl Ts t a k) else p) p = q at h1 h2
    by_cases e : tbl Ts n a k = 0
    · rw [if_neg (by simp [e]), e]
      exact ⟨h1, by simp⟩
    · rw [if_pos e]
      exact ⟨⟨nd_padd h1.nd, allK_padd h1.srt isort_sorted, allK_padd h1.len (by
        rw [isort_perm.length_eq, List.length_append]
        exact hl.1), allK_padd h1.var fun j hj => by
        rcases List.mem_append.mp (isort_perm.mem_iff.mp hj) with q | q
        · exact hl.2 j q
        · rw [List.mem_singleton.mp q]; omega⟩, wt_padd h1.nd⟩
theorem added_ok {c : Nat} : ∀ {more p : Poly}, PF Ts.length c p → Mo Ts.length c more → PF Ts.length c (addedM p more Ts a k sign) ∧ ev (addedM p more Ts a k sign) x = ev p x + sign * summedT Ts x a k * ev more x
  | [], p, h, _ => ⟨h, by show ev p x = ev p x + sign * summedT Ts x a k * 0; omega⟩
  | kv :: more, p, h, hm => by
    obtain ⟨h1, h2⟩ := added_in (Ts := Ts) (a := a) (k := k) (sign := sign) (φ := mon x) (kv := kv) (hm kv List.mem_cons_self) Ts.length (Nat.le_refl _) h
    obtain ⟨h3, h4⟩ := added_ok (more := more) h1 fun kv m => hm kv (List.mem_cons_of_mem _ m)
    have e : addedM p (kv :: more) Ts a k sign = addedM ((List.range Ts.length).foldl (fun p t => if tbl Ts t a k ≠ 0 then padd p (isort (kv.1 ++ [t])) (sign * kv.2 * tbl Ts t a k) else p) p) more Ts a k sign := rfl
    rw [e]
    refine ⟨h3, ?_⟩
    rw [h4]
    have e2 : ev ((List.range Ts.length).foldl (fun p t => if tbl Ts t a k ≠ 0 then padd p (isort (kv.1 ++ [t])) (sign * kv.2 * tbl Ts t a k) else p) p) x = ev p x + sumN Ts.length fun t => sign * kv.2 * tbl Ts t a k * mon x (isort (kv.1 ++ [t])) := h2
    rw [e2]
    have e3 : (sumN Ts.length fun t => sign * kv.2 * tbl Ts t a k * mon x (isort (kv.1 ++ [t]))) = sign * kv.2 * mon x kv.1 * summedT Ts x a k := by
      unfold summedT
      rw [← sumN_mul]
      exact sumN_congr fun t _ => by
        rw [mon_perm isort_perm, mon_append]
        simp only [mon]
        grind
    rw [e3]
    show _ = ev p x + sign * summedT Ts x a k * (kv.2 * mon x kv.1 + ev more x)
    grind
/-- norms -/
def tabNrm (Ts : List Tb) (a k : Nat) : Nat → Nat
  | 0 => 0
  | n + 1 => tabNrm Ts a k n + (tbl Ts n a k).natAbs
theorem added_nrm {c : Nat} (hs : sign.natAbs = 1) : ∀ {more p : Poly}, PF Ts.length c p → Mo Ts.length c more → nrm (addedM p more Ts a k sign) ≤ nrm p + nrm more * tabNrm Ts a k Ts.length
  | [], p, h, _ => by show nrm p ≤ nrm p + 0 * _; omega
  | kv :: more, p, h, hm => by
    have hl := hm kv List.mem_cons_self
    obtain ⟨h1, _⟩ := added_in (Ts := Ts) (a := a) (k := k) (sign := sign) (φ := fun _ => 0) hl Ts.length (Nat.le_refl _) h
    have h3 := added_nrm hs (more := more) h1 fun kv m => hm kv (List.mem_cons_of_mem _ m)
    have e : addedM p (kv :: more) Ts a k sign = addedM ((List.range Ts.length).foldl (fun p t => if tbl Ts t a k ≠ 0 then padd p (isort (kv.1 ++ [t])) (sign * kv.2 * tbl Ts t a k) else p) p) more Ts a k sign := rfl
    rw [e]
    refine Nat.le_trans h3 ?_
    have inner : ∀ n, n ≤ Ts.length → nrm ((List.range n).foldl (fun p t => if tbl Ts t a k ≠ 0 then padd p (isort (kv.1 ++ [t])) (sign * kv.2 * tbl Ts t a k) else p) p) ≤ nrm p + kv.2.natAbs * tabNrm Ts a k n := by
      intro n
      induction n with
      | zero => intro _; exact Nat.le_add_right _ _
      | succ n ih =>
        intro hn
        have ih := ih (by omega)
        obtain ⟨g1, _⟩ := added_in (Ts := Ts) (a := a) (k := k) (sign := sign) (φ := fun _ => 0) hl n (by omega) h
        rw [List.range_succ, List.foldl_append]
        simp only [List.foldl_cons, List.foldl_nil, tabNrm]
        rw [Nat.mul_add]
        split
        · have := nrm_padd (k := isort (kv.1 ++ [n])) (c := sign * kv.2 * tbl Ts n a k) g1.nd
          rw [Int.natAbs_mul, Int.natAbs_mul, hs, Nat.one_mul] at this
          omega
        · omega
    have := inner Ts.length (Nat.le_refl _)
    simp only [nrm]
    rw [Nat.add_mul]
    omega
theorem detStates_succ {n : Nat} : detStates n Ts (a + 1) = detRow n Ts a (detStates n Ts a) := by
  unfold detStates
  rw [List.range_succ, List.foldl_append]
  rfl
theorem row30 {o : Poly} : detRow 3 Ts 0 [([], o)] = [([0], addedM [] o Ts 0 0 1), ([1], addedM [] o Ts 0 1 1), ([2], addedM [] o Ts 0 2 1)] := rfl
theorem row31 {a0 a1 a2 : Poly} : detRow 3 Ts 1 [([0], a0), ([1], a1), ([2], a2)] = [([0, 1], addedM (addedM [] a0 Ts 1 1 1) a1 Ts 1 0 (-1)), ([0, 2], addedM (addedM [] a0 Ts 1 2 1) a2 Ts 1 0 (-1)), ([1, 2], addedM (addedM [] a1 Ts 1 2 1) a2 Ts 1 1 (-1))] := rfl
theorem row32 {a0 a1 a2 : Poly} : detRow 3 Ts 2 [([0, 1], a0), ([0, 2], a1), ([1, 2], a2)] = [([0, 1, 2], addedM (addedM (addedM [] a0 Ts 2 2 1) a1 Ts 2 1 (-1)) a2 Ts 2 0 1)] := by
  simp [detRow, detCell, isort, isort.insN, sput, sget, signOf, List.range, List.range.loop, List.filter]
theorem sget_one {k : List Nat} {o : Poly} : sget [(k, o)] k = o := by unfold sget; simp
theorem pf_nil {V c : Nat} : PF V c [] := ⟨List.nodup_nil, fun _ h => (nomatch h), fun _ h => (nomatch h), fun _ h => (nomatch h)⟩
theorem PF.up {V c : Nat} (h : PF V c p) : Mo V (c + 1) p := fun kv m => ⟨Nat.succ_le_succ (h.len kv m), h.var kv m⟩
theorem pf_one {V : Nat} : PF V 0 [([], 1)] := ⟨by unfold Nd; simp, fun kv m => by rw [List.mem_singleton.mp m]; exact .nil, fun kv m => by rw [List.mem_singleton.mp m]; exact Nat.le_refl _, fun kv m => by rw [List.mem_singleton.mp m]; exact fun j hj => nomatch hj⟩
theorem ev_one : ev [([], 1)] x = 1 := rfl
theorem ev_nil : ev [] x = 0 := rfl
/-- the determinant as a polynomial -/
theorem det_poly {n : Nat} (hn : n = 1 ∨ n = 2 ∨ n = 3) {B : Nat} (hB : ∀ a k, a < n → k < n → tabNrm Ts a k Ts.length ≤ B) : Canon n (detM n Ts) ∧ AllK (fun k => ∀ j ∈ k, j < Ts.length) (detM n Ts) ∧ nrm (sget (detStates n Ts n) (List.range n)) ≤ 6 * B ^ 3 + 6 * B ^ 2 + 6 * B ∧ ∀ x, ev (detM n Ts) x = det n (summedT Ts x) := by
  have main : ∃ P : Poly, sget (detStates n Ts n) (List.range n) = P ∧ PF Ts.length n P ∧ nrm P ≤ 6 * B ^ 3 + 6 * B ^ 2 + 6 * B ∧ ∀ x, ev P x = det n (summedT Ts x) := by
    rcases hn with rfl | rfl | rfl
    · refine ⟨addedM [] [([], 1)] Ts 0 0 1, rfl, (added_ok (x := fun _ => 0) pf_nil pf_one.up).1, ?_, fun x => ?_⟩
      · refine Nat.le_trans (added_nrm rfl pf_nil pf_one.up) ?_
        have := hB 0 0 (by omega) (by omega)
        have i1 : Int.natAbs 1 = 1 := rfl
        simp only [nrm, Nat.zero_add, Nat.add_zero, i1, Nat.one_mul]
        omega
      · rw [(added_ok (x := x) pf_nil pf_one.up).2, ev_one, ev_nil]
        show 0 + 1 * summedT Ts x 0 0 * 1 = summedT Ts x 0 0
        omega
    · have A0 := fun x => added_ok (Ts := Ts) (a := 0) (k := 0) (sign := 1) (x := x) pf_nil pf_one.up
      have A1 := fun x => added_ok (Ts := Ts) (a := 0) (k := 1) (sign := 1) (x := x) pf_nil pf_one.up
      have N0 := added_nrm (Ts := Ts) (a := 0) (k := 0) (sign := 1) rfl pf_nil pf_one.up
      have N1 := added_nrm (Ts := Ts) (a := 0) (k := 1) (sign := 1) rfl pf_nil pf_one.up
      have z : Nat → Int := fun _ => 0
      have e : sget (detStates 2 Ts 2) (List.range 2) = addedM (addedM [] (addedM [] [([], 1)] Ts 0 0 1) Ts 1 1 1) (addedM [] [([], 1)] Ts 0 1 1) Ts 1 0 (-1) := rfl
      generalize addedM [] [([], 1)] Ts 0 0 1 = a0 at A0 N0 e
      generalize addedM [] [([], 1)] Ts 0 1 1 = a1 at A1 N1 e
      have p0 := (A0 z).1
      have p1 := (A1 z).1
      have B0 := fun x => added_ok (Ts := Ts) (a := 1) (k := 1) (sign := 1) (x := x) pf_nil p0.up
      have M0 := added_nrm (Ts := Ts) (a := 1) (k := 1) (sign := 1) rfl pf_nil p0.up
      generalize addedM [] a0 Ts 1 1 1 = b0 at B0 M0 e
      have B1 := fun x => added_ok (Ts := Ts) (a := 1) (k := 0) (sign := -1) (x := x) (B0 z).1 p1.up
      have M1 := added_nrm (Ts := Ts) (a := 1) (k := 0) (sign := -1) rfl (B0 z).1 p1.up
      generalize addedM b0 a1 Ts 1 0 (-1) = b1 at B1 M1 e
      refine ⟨b1, e, (B1 z).1, ?_, fun x => ?_⟩
      · have h00 := hB 0 0 (by omega) (by omega)
        have h01 := hB 0 1 (by omega) (by omega)
        have h10 := hB 1 0 (by omega) (by omega)
        have h11 := hB 1 1 (by omega) (by omega)
        simp only [nrm, Nat.zero_add, Nat.add_zero, Nat.one_mul] at N0 N1 M0
        have n0 : nrm a0 ≤ B := by have : Int.natAbs 1 = 1 := rfl; rw [this, Nat.one_mul] at N0; omega
        have n1 : nrm a1 ≤ B := by have : Int.natAbs 1 = 1 := rfl; rw [this, Nat.one_mul] at N1; omega
        have m0 : nrm b0 ≤ B * B := Nat.le_trans M0 (Nat.mul_le_mul n0 h11)
        have m1 : nrm a1 * tabNrm Ts 1 0 Ts.length ≤ B * B := Nat.mul_le_mul n1 h10
        have e2 : B ^ 2 = B * B := by rw [Nat.pow_succ, Nat.pow_one]
        omega
      · rw [(B1 x).2, (B0 x).2, (A0 x).2, (A1 x).2, ev_one, ev_nil]
        show _ = summedT Ts x 0 0 * summedT Ts x 1 1 - summedT Ts x 0 1 * summedT Ts x 1 0
        grind
    · have A0 := fun x => added_ok (Ts := Ts) (a := 0) (k := 0) (sign := 1) (x := x) pf_nil pf_one.up
      have A1 := fun x => added_ok (Ts := Ts) (a := 0) (k := 1) (sign := 1) (x := x) pf_nil pf_one.up
      have A2 := fun x => added_ok (Ts := Ts) (a := 0) (k := 2) (sign := 1) (x := x) pf_nil pf_one.up
      have N0 := added_nrm (Ts := Ts) (a := 0) (k := 0) (sign := 1) rfl pf_nil pf_one.up
      have N1 := added_nrm (Ts := Ts) (a := 0) (k := 1) (sign := 1) rfl pf_nil pf_one.up
      have N2 := added_nrm (Ts := Ts) (a := 0) (k := 2) (sign := 1) rfl pf_nil pf_one.up
      have z : Nat → Int := fun _ => 0
      have e : sget (detStates 3 Ts 3) (List.range 3) = addedM (addedM (addedM [] (addedM (addedM [] (addedM [] [([], 1)] Ts 0 0 1) Ts 1 1 1) (addedM [] [([], 1)] Ts 0 1 1) Ts 1 0 (-1)) Ts 2 2 1)
        (addedM (addedM [] (addedM [] [([], 1)] Ts 0 0 1) Ts 1 2 1) (addedM [] [([], 1)] Ts 0 2 1) Ts 1 0 (-1)) Ts 2 1 (-1))
        (addedM (addedM [] (addedM [] [([], 1)] Ts 0 1 1) Ts 1 2 1) (addedM [] [([], 1)] Ts 0 2 1) Ts 1 1 (-1)) Ts 2 0 1 := by
        rw [detStates_succ, detStates_succ, detStates_succ, show detStates 3 Ts 0 = [([], [([], 1)])] from rfl, row30, row31, row32]
        exact sget_one
      generalize addedM [] [([], 1)] Ts 0 0 1 = a0 at A0 N0 e
      generalize addedM [] [([], 1)] Ts 0 1 1 = a1 at A1 N1 e
      generalize addedM [] [([], 1)] Ts 0 2 1 = a2 at A2 N2 e
      have p0 := (A0 z).1
      have p1 := (A1 z).1
      have p2 := (A2 z).1
      have C0 := fun x => added_ok (Ts := Ts) (a := 1) (k := 1) (sign := 1) (x := x) pf_nil p0.up
      have R0 := added_nrm (Ts := Ts) (a := 1) (k := 1) (sign := 1) rfl pf_nil p0.up
      generalize addedM [] a0 Ts 1 1 1 = c0 at C0 R0 e
      have C1 := fun x => added_ok (Ts := Ts) (a := 1) (k := 0) (sign := -1) (x := x) (C0 z).1 p1.up
      have R1 := added_nrm (Ts := Ts) (a := 1) (k := 0) (sign := -1) rfl (C0 z).1 p1.up
      generalize addedM c0 a1 Ts 1 0 (-1) = c1 at C1 R1 e
      have D0 := fun x => added_ok (Ts := Ts) (a := 1) (k := 2) (sign := 1) (x := x) pf_nil p0.up
      have S0 := added_nrm (Ts := Ts) (a := 1) (k := 2) (sign := 1) rfl pf_nil p0.up
      generalize addedM [] a0 Ts 1 2 1 = d0 at D0 S0 e
      have D1 := fun x => added_ok (Ts := Ts) (a := 1) (k := 0) (sign := -1) (x := x) (D0 z).1 p2.up
      have S1 := added_nrm (Ts := Ts) (a := 1) (k := 0) (sign := -1) rfl (D0 z).1 p2.up
      generalize addedM d0 a2 Ts 1 0 (-1) = d1 at D1 S1 e
      have E0 := fun x => added_ok (Ts := Ts) (a := 1) (k := 2) (sign := 1) (x := x) pf_nil p1.up
      have T0 := added_nrm (Ts := Ts) (a := 1) (k := 2) (sign := 1) rfl pf_nil p1.up
      generalize addedM [] a1 Ts 1 2 1 = e0 at E0 T0 e
      have E1 := fun x => added_ok (Ts := Ts) (a := 1) (k := 1) (sign := -1) (x := x) (E0 z).1 p2.up
      have T1 := added_nrm (Ts := Ts) (a := 1) (k := 1) (sign := -1) rfl (E0 z).1 p2.up
      generalize addedM e0 a2 Ts 1 1 (-1) = e1 at E1 T1 e
      have F0 := fun x => added_ok (Ts := Ts) (a := 2) (k := 2) (sign := 1) (x := x) pf_nil (C1 z).1.up
      have U0 := added_nrm (Ts := Ts) (a := 2) (k := 2) (sign := 1) rfl pf_nil (C1 z).1.up
      generalize addedM [] c1 Ts 2 2 1 = f0 at F0 U0 e
      have F1 := fun x => added_ok (Ts := Ts) (a := 2) (k := 1) (sign := -1) (x := x) (F0 z).1 (D1 z).1.up
      have U1 := added_nrm (Ts := Ts) (a := 2) (k := 1) (sign := -1) rfl (F0 z).1 (D1 z).1.up
      generalize addedM f0 d1 Ts 2 1 (-1) = f1 at F1 U1 e
      have F2 := fun x => added_ok (Ts := Ts) (a := 2) (k := 0) (sign := 1) (x := x) (F1 z).1 (E1 z).1.up
      have U2 := added_nrm (Ts := Ts) (a := 2) (k := 0) (sign := 1) rfl (F1 z).1 (E1 z).1.up
      generalize addedM f1 e1 Ts 2 0 1 = f2 at F2 U2 e
      refine ⟨f2, e, (F2 z).1, ?_, fun x => ?_⟩
      · have h00 := hB 0 0 (by omega) (by omega)
        have h01 := hB 0 1 (by omega) (by omega)
        have h02 := hB 0 2 (by omega) (by omega)
        have h10 := hB 1 0 (by omega) (by omega)
        have h11 := hB 1 1 (by omega) (by omega)
        have h12 := hB 1 2 (by omega) (by omega)
        have h20 := hB 2 0 (by omega) (by omega)
        have h21 := hB 2 1 (by omega) (by omega)
        have h22 := hB 2 2 (by omega) (by omega)
        have i1 : Int.natAbs 1 = 1 := rfl
        simp only [nrm, Nat.zero_add, Nat.add_zero, i1, Nat.one_mul] at N0 N1 N2 R0 S0 T0 U0
        have n0 : nrm a0 ≤ B := by omega
        have n1 : nrm a1 ≤ B := by omega
        have n2 : nrm a2 ≤ B := by omega
        have r0 : nrm c0 ≤ B * B := Nat.le_trans R0 (Nat.mul_le_mul n0 h11)
        have r1 : nrm a1 * tabNrm Ts 1 0 Ts.length ≤ B * B := Nat.mul_le_mul n1 h10
        have s0 : nrm d0 ≤ B * B := Nat.le_trans S0 (Nat.mul_le_mul n0 h12)
        have s1 : nrm a2 * tabNrm Ts 1 0 Ts.length ≤ B * B := Nat.mul_le_mul n2 h10
        have t0 : nrm e0 ≤ B * B := Nat.le_trans T0 (Nat.mul_le_mul n1 h12)
        have t1 : nrm a2 * tabNrm Ts 1 1 Ts.length ≤ B * B := Nat.mul_le_mul n2 h11
        have u0 : nrm f0 ≤ (2 * (B * B)) * B := Nat.le_trans U0 (Nat.mul_le_mul (by omega) h22)
        have u1 : nrm d1 * tabNrm Ts 2 1 Ts.length ≤ (2 * (B * B)) * B := Nat.mul_le_mul (by omega) h21
        have u2 : nrm e1 * tabNrm Ts 2 0 Ts.length ≤ (2 * (B * B)) * B := Nat.mul_le_mul (by omega) h20
        have e3 : B ^ 3 = B * B * B := by rw [Nat.pow_succ, Nat.pow_succ, Nat.pow_one]
        have e4 : (2 * (B * B)) * B = 2 * (B * B * B) := by rw [Nat.mul_assoc]
        omega
      · rw [(F2 x).2, (F1 x).2, (F0 x).2, (C1 x).2, (C0 x).2, (D1 x).2, (D0 x).2, (E1 x).2, (E0 x).2, (A0 x).2, (A1 x).2, (A2 x).2, ev_one, ev_nil]
        show _ = summedT Ts x 0 0 * (summedT Ts x 1 1 * summedT Ts x 2 2 - summedT Ts x 1 2 * summedT Ts x 2 1) - summedT Ts x 0 1 * (summedT Ts x 1 0 * summedT Ts x 2 2 - summedT Ts x 1 2 * summedT Ts x 2 0) + summedT Ts x 0 2 * (summedT Ts x 1 0 * summedT Ts x 2 1 - summedT Ts x 1 1 * summedT Ts x 2 0)
        grind
  obtain ⟨P, e, pf, nb, ve⟩ := main
  unfold detM
  rw [e]
  exact ⟨⟨nd_dropZ pf.nd, allK_dropZ pf.srt, allK_dropZ pf.len, fun kv m => dropZ_ne m⟩, allK_dropZ pf.var, nb, fun x => by
    rw [← ve x]
    exact wt_dropZ⟩
end
end La
-- M12
namespace La
def fits (P : Poly) (size i : Nat) : List Nat := (List.range (size + 1)).filter fun v => decide (0 < (putInto P i (v : Int)).length)
def numsP (P : Poly) (size : Nat) : Nat → Poly
  | 0 => P
  | i + 1 => putInto (numsP P size i) i (((fits (numsP P size i) size i).headD 0 : Nat) : Int)
def numV (P : Poly) (size i : Nat) : Int := (((fits (numsP P size i) size i).headD 0 : Nat) : Int)
section
variable {P : Poly} {n m i : Nat} {x : Nat → Int}
structure NumOk (n m i : Nat) (P Q : Poly) : Prop where
  canon : Canon n Q
  ne : Q ≠ []
  var : AllK (fun k => ∀ j ∈ k, i ≤ j ∧ j < m) Q
theorem fits_ne (hn : n = 1 ∨ n = 2 ∨ n = 3) (h : Canon n P) (ne : P ≠ []) (i : Nat) : ∃ v t, fits P n i = v :: t ∧ v ≤ n ∧ putInto P i (v : Int) ≠ [] := by
  obtain ⟨v, hv, q⟩ := put_some hn h ne i
  have m : v ∈ fits P n i := List.mem_filter.mpr ⟨List.mem_range.mpr (by omega), decide_eq_true (List.length_pos_iff.mpr q)⟩
  cases e : fits P n i with
  | nil => rw [e] at m; cases m
  | cons u t =>
    have mu : u ∈ fits P n i := by rw [e]; exact List.mem_cons_self
    obtain ⟨h1, h2⟩ := List.mem_filter.mp mu
    have h1 := List.mem_range.mp h1
    exact ⟨u, t, rfl, by omega, List.length_pos_iff.mp (of_decide_eq_true h2)⟩
theorem num_step (hn : n = 1 ∨ n = 2 ∨ n = 3) (h : NumOk n m i P (numsP P n i)) : NumOk n m (i + 1) P (numsP P n (i + 1)) ∧ 0 ≤ numV P n i ∧ numV P n i ≤ n := by
  obtain ⟨v, t, e, hv, q⟩ := fits_ne hn h.canon h.ne i
  have ev : numV P n i = (v : Int) := by unfold numV; rw [e]; rfl
  refine ⟨⟨canon_put h.canon, ?_, ?_⟩, by omega, by omega⟩
  · show putInto (numsP P n i) i (((fits (numsP P n i) n i).headD 0 : Nat) : Int) ≠ []
    rw [e]
    exact q
  · refine allK_put fun kv mm j hj => ?_
    obtain ⟨h1, h2⟩ := List.mem_filter.mp hj
    have := h.var kv mm j h1
    have := of_decide_eq_true h2
    omega
theorem num_all (hn : n = 1 ∨ n = 2 ∨ n = 3) (h : Canon n P) (ne : P ≠ []) (hv : AllK (fun k => ∀ j ∈ k, j < m) P) : ∀ i, NumOk n m i P (numsP P n i)
  | 0 => ⟨h, ne, fun kv mm j hj => ⟨Nat.zero_le _, hv kv mm j hj⟩⟩
  | i + 1 => (num_step hn (num_all hn h ne hv i)).1
theorem num_ev : ∀ i, (∀ j, j < i → x j = numV P n j) → ev (numsP P n i) x = ev P x
  | 0, _ => rfl
  | i + 1, h => by
    rw [← num_ev i fun j hj => h j (by omega)]
    exact ev_put (h i (by omega))
theorem num_ne (hn : n = 1 ∨ n = 2 ∨ n = 3) (h : Canon n P) (ne : P ≠ []) (hv : AllK (fun k => ∀ j ∈ k, j < m) P) : ev P (numV P n) ≠ 0 := by
  rw [← num_ev (x := numV P n) m fun _ _ => rfl]
  have N := num_all hn h ne hv m
  have nil : ∀ kv ∈ numsP P n m, kv.1 = [] := fun kv mm => by
    have := N.var kv mm
    cases e : kv.1 with
    | nil => rfl
    | cons j t =>
      rw [e] at this
      have := this j List.mem_cons_self
      omega
  cases e : numsP P n m with
  | nil => exact absurd e N.ne
  | cons kv t =>
    have hk := nil kv (by rw [e]; exact List.mem_cons_self)
    have ht : t = [] := by
      cases t with
      | nil => rfl
      | cons kv2 t =>
        have hk2 := nil kv2 (by rw [e]; exact List.mem_cons_of_mem _ List.mem_cons_self)
        have nd := N.canon.nd
        rw [e] at nd
        unfold Nd at nd
        rw [List.map_cons, List.map_cons, hk, hk2, List.nodup_cons] at nd
        exact absurd List.mem_cons_self nd.1
    subst ht
    have c0 := N.canon.ne kv (by rw [e]; exact List.mem_cons_self)
    show kv.2 * mon (numV P n) kv.1 + 0 ≠ 0
    rw [hk]
    show kv.2 * 1 + 0 ≠ 0
    omega
theorem num_nrm (hn : n = 1 ∨ n = 2 ∨ n = 3) (h : Canon n P) (ne : P ≠ []) (hv : AllK (fun k => ∀ j ∈ k, j < m) P) : ∀ i, nrm (numsP P n i) ≤ 27 ^ i * nrm P
  | 0 => by simp [numsP]
  | i + 1 => by
    have N := num_all hn h ne hv i
    have ih := num_nrm hn h ne hv i
    have st := num_step hn N
    show nrm (putInto (numsP P n i) i (numV P n i)) ≤ _
    refine Nat.le_trans nrm_dropZ (Nat.le_trans (nrm_put (b := 27) fun k hk => ?_) ?_)
    · obtain ⟨kv, mm, rfl⟩ := List.mem_map.mp hk
      have hl := N.canon.len kv mm
      have he : exps i kv.1 ≤ 3 := by unfold exps; omega
      rw [Int.natAbs_pow]
      have h1 : (numV P n i).natAbs ≤ 3 := by omega
      exact Nat.le_trans (Nat.pow_le_pow_left h1 _) (Nat.pow_le_pow_right (n := 3) (by decide) he)
    · rw [Nat.pow_succ, Nat.mul_comm (27 ^ i), Nat.mul_assoc]
      exact Nat.mul_le_mul_left _ ih
/-- the same, while a value is tried -/
theorem try_nrm (hn : n = 1 ∨ n = 2 ∨ n = 3) (N : NumOk n m i P (numsP P n i)) {v : Nat} (hv : v ≤ n) : nrm (putSum (numsP P n i) i (v : Int)) ≤ 27 * nrm (numsP P n i) := nrm_put fun k hk => by
  obtain ⟨kv, mm, rfl⟩ := List.mem_map.mp hk
  have hl := N.canon.len kv mm
  have he : exps i kv.1 ≤ 3 := by unfold exps; omega
  rw [Int.natAbs_pow]
  have h1 : (v : Int).natAbs ≤ 3 := by omega
  exact Nat.le_trans (Nat.pow_le_pow_left h1 _) (Nat.pow_le_pow_right (n := 3) (by decide) he)
end

def powers (p : Nat) (t : Nat) : Int := ((t : Int) + 1) ^ p
def isReg (n : Nat) (T : Tb) : Bool := decide ((reduced n (rowsOf n T)).length = n)
def regSum (n : Nat) (F : List Tb) : Option Tb :=
  match (List.range 4).find? fun p => isReg n (summedT F (powers p)) with
  | some p => some (summedT F (powers p))
  | none => if (detM n F).length = 0 then none else some (summedT F (numV (detM n F) n))
def chgs (n : Nat) (Ts Os : List Tb) : List Tb := (nulls (n * n) (condRows n Ts Os)).map (tabOf n)
def told (n : Nat) (Ts Os : List Tb) : Option Tb := if (chgs n Ts Os).length = 0 then none else regSum n (chgs n Ts Os)
section
variable {n : Nat} {Ts Os F : List Tb} {X : Tb} {x : Nat → Int}
theorem isReg_iff (hn : n = 1 ∨ n = 2 ∨ n = 3) {T : Tb} : isReg n T = true ↔ det n T ≠ 0 := by
  unfold isReg
  rw [decide_eq_true_iff, rank_iff, det_triv hn]
theorem tbl_mem {t : Nat} (h : t < F.length) : tbl F t ∈ F := by
  unfold tbl
  rw [List.getD_eq_getElem?_getD, List.getElem?_eq_getElem h]
  exact List.getElem_mem h
theorem chg_sum (h : ∀ t, t < F.length → Chg n Ts Os (tbl F t)) : Chg n Ts Os (summedT F x) := fun p hp i j hi hj => by
  unfold mulT summedT
  have e1 : (sumN n fun k => (sumN F.length fun t => x t * tbl F t i k) * p.1 k j) = sumN F.length fun t => x t * mulT n (tbl F t) p.1 i j := by
    have : (sumN n fun k => (sumN F.length fun t => x t * tbl F t i k) * p.1 k j) = sumN n fun k => sumN F.length fun t => x t * tbl F t i k * p.1 k j := sumN_congr fun k _ => sumN_mulR.symm
    rw [this, sumN_comm]
    refine sumN_congr fun t _ => ?_
    unfold mulT
    rw [← sumN_mul]
    exact sumN_congr fun k _ => Int.mul_assoc _ _ _
  have e2 : (sumN n fun k => p.2 i k * sumN F.length fun t => x t * tbl F t k j) = sumN F.length fun t => x t * mulT n p.2 (tbl F t) i j := by
    have : (sumN n fun k => p.2 i k * sumN F.length fun t => x t * tbl F t k j) = sumN n fun k => sumN F.length fun t => p.2 i k * (x t * tbl F t k j) := sumN_congr fun k _ => sumN_mul.symm
    rw [this, sumN_comm]
    refine sumN_congr fun t _ => ?_
    unfold mulT
    rw [← sumN_mul]
    exact sumN_congr fun k _ => by grind
  rw [e1, e2]
  exact sumN_congr fun t ht => by rw [h t ht p hp i j hi hj]
theorem chgs_chg : ∀ t, t < (chgs n Ts Os).length → Chg n Ts Os (tbl (chgs n Ts Os) t) := fun t ht => by
  obtain ⟨v, hv, e⟩ := List.mem_map.mp (tbl_mem ht)
  show Chg n Ts Os (tbl (List.map (tabOf n) (nulls (n * n) (condRows n Ts Os))) t)
  rw [← e]
  exact cond_iff.mp (nulls_sp.mp (.mem hv))
/-- every change is a sum of what was found, but for a factor -/
theorem chg_sum_of (h : Chg n Ts Os X) : ∃ N : Int, N ≠ 0 ∧ ∃ x : Nat → Int, EqT n (fun i j => N * X i j) (summedT (chgs n Ts Os) x) := by
  have s : Sp (n * n) (nulls (n * n) (condRows n Ts Os)) (flatOf n X) := nulls_sp.mpr (cond_flat h)
  obtain ⟨N, n0, c, e⟩ := s.to_comb
  refine ⟨N, n0, c, fun i j hi hj => ?_⟩
  have := e (n * i + j) (ix_lt hi hj)
  show N * X i j = sumN (chgs n Ts Os).length fun t => c t * tbl (chgs n Ts Os) t i j
  rw [show flatOf n X (n * i + j) = X i j from tab_flat i j hi hj] at this
  rw [this]
  unfold comb chgs
  rw [List.length_map]
  refine sumN_congr fun t ht => ?_
  congr 1
  unfold tbl row
  rw [List.getD_eq_getElem?_getD, List.getD_eq_getElem?_getD, List.getElem?_map, List.getElem?_eq_getElem ht]
  rfl
theorem told_some (hn : n = 1 ∨ n = 2 ∨ n = 3) (h : told n Ts Os = some X) : Chg n Ts Os X ∧ det n X ≠ 0 ∧ ∃ x : Nat → Int, X = summedT (chgs n Ts Os) x ∧ ∀ t, t < 9 → (x t).natAbs < 1024 := by
  unfold told at h
  split at h
  · cases h
  · unfold regSum at h
    split at h
    · rename_i p hp
      cases h
      have q := List.find?_range_eq_some.mp hp
      refine ⟨chg_sum chgs_chg, (isReg_iff hn).mp q.1, _, rfl, fun t ht => ?_⟩
      unfold powers
      rw [Int.natAbs_pow]
      have h1 : ((t : Int) + 1).natAbs ≤ 9 := by omega
      have h2 := List.mem_range.mp q.2.1
      exact Nat.lt_of_le_of_lt (Nat.le_trans (Nat.pow_le_pow_left h1 p) (Nat.pow_le_pow_right (n := 9) (by decide) (show p ≤ 3 by omega))) (by decide)
    · split at h
      · cases h
      · rename_i ne
        cases h
        obtain ⟨c1, c2, _, c4⟩ := det_poly (Ts := chgs n Ts Os) hn (B := tabNrm (chgs n Ts Os) 0 0 (chgs n Ts Os).length + tabNrm (chgs n Ts Os) 0 1 (chgs n Ts Os).length + tabNrm (chgs n Ts Os) 0 2 (chgs n Ts Os).length + tabNrm (chgs n Ts Os) 1 0 (chgs n Ts Os).length + tabNrm (chgs n Ts Os) 1 1 (chgs n Ts Os).length + tabNrm (chgs n Ts Os) 1 2 (chgs n Ts Os).length + tabNrm (chgs n Ts Os) 2 0 (chgs n Ts Os).length + tabNrm (chgs n Ts Os) 2 1 (chgs n Ts Os).length + tabNrm (chgs n Ts Os) 2 2 (chgs n Ts Os).length) (fun a k ha hk => by
          have : (a = 0 ∨ a = 1 ∨ a = 2) ∧ (k = 0 ∨ k = 1 ∨ k = 2) := by omega
          rcases this with ⟨rfl | rfl | rfl, rfl | rfl | rfl⟩ <;> omega)
        have ne2 : detM n (chgs n Ts Os) ≠ [] := fun e => ne (by rw [e]; rfl)
        refine ⟨chg_sum chgs_chg, ?_, _, rfl, fun t ht => ?_⟩
        · rw [← c4]
          exact num_ne hn c1 ne2 c2
        · have := num_step hn (num_all hn c1 ne2 c2 t)
          omega
theorem det_zero (hn : n = 1 ∨ n = 2 ∨ n = 3) (h : ∀ i j, i < n → j < n → X i j = 0) : det n X = 0 := by
  rw [det_congr (B := fun i j => 0 * X i j) fun i j hi hj => by rw [h i j hi hj]; simp, det_mul]
  rcases hn with rfl | rfl | rfl <;> simp
theorem told_none (hn : n = 1 ∨ n = 2 ∨ n = 3) (h : told n Ts Os = none) : ∀ X, Chg n Ts Os X → det n X = 0 := fun X hX => by
  obtain ⟨N, n0, x, e⟩ := chg_sum_of hX
  have dz : det n (summedT (chgs n Ts Os) x) = 0 → det n X = 0 := fun z => by
    rw [← det_congr e, det_mul] at z
    exact (Int.mul_eq_zero.mp z).resolve_left (Int.pow_ne_zero n0)
  apply dz
  unfold told at h
  split at h
  · rename_i l
    refine det_zero hn fun i j _ _ => ?_
    unfold summedT
    rw [l]
    rfl
  · unfold regSum at h
    split at h
    · cases h
    · split at h
      · rename_i z
        obtain ⟨c1, c2, _, c4⟩ := det_poly (Ts := chgs n Ts Os) hn (B := tabNrm (chgs n Ts Os) 0 0 (chgs n Ts Os).length + tabNrm (chgs n Ts Os) 0 1 (chgs n Ts Os).length + tabNrm (chgs n Ts Os) 0 2 (chgs n Ts Os).length + tabNrm (chgs n Ts Os) 1 0 (chgs n Ts Os).length + tabNrm (chgs n Ts Os) 1 1 (chgs n Ts Os).length + tabNrm (chgs n Ts Os) 1 2 (chgs n Ts Os).length + tabNrm (chgs n Ts Os) 2 0 (chgs n Ts Os).length + tabNrm (chgs n Ts Os) 2 1 (chgs n Ts Os).length + tabNrm (chgs n Ts Os) 2 2 (chgs n Ts Os).length) (fun a k ha hk => by
          have : (a = 0 ∨ a = 1 ∨ a = 2) ∧ (k = 0 ∨ k = 1 ∨ k = 2) := by omega
          rcases this with ⟨rfl | rfl | rfl, rfl | rfl | rfl⟩ <;> omega)
        rw [← c4, List.length_eq_zero_iff.mp z]
        rfl
      · cases h
end
end La
-- M13
namespace La
section
variable {n : Nat} {Ts Os F : List Tb} {X : Tb} {x : Nat → Int}
theorem chgs_len : (chgs n Ts Os).length ≤ n * n := by
  unfold chgs
  rw [List.length_map]
  exact (reduced_ok (w := n * n) (rows := founds (n * n) (reduced (n * n) (condRows n Ts Os)))).rref.leads_lt
def Cells (n : Nat) (p : Int → Prop) (T : Tb) : Prop := ∀ i j, i < n → j < n → p (T i j)
def Sml (n : Nat) (Ts : List Tb) : Prop := ∀ T ∈ Ts, Cells n (fun x => x.natAbs ≤ 7000) T
theorem nn9 (hn : n = 1 ∨ n = 2 ∨ n = 3) : n * n ≤ 9 := by rcases hn with rfl | rfl | rfl <;> decide
theorem chgs_bits (hn : n = 1 ∨ n = 2 ∨ n = 3) (h1 : Sml n Ts) (h2 : Sml n Os) : ∀ t, t < (chgs n Ts Os).length → Cells n (fun x => x.natAbs < 2 ^ 410) (tbl (chgs n Ts Os) t) := fun t ht i j hi hj => by
  obtain ⟨v, hv, e⟩ := List.mem_map.mp (show tbl ((nulls (n * n) (condRows n Ts Os)).map (tabOf n)) t ∈ _ from tbl_mem ht)
  rw [show tbl (chgs n Ts Os) t = tabOf n v from e.symm]
  exact (null_fine (nn9 hn) (cond_bits h1 h2)).2 v hv _ (ix_lt hi hj)
theorem sum_bits {m a b : Nat} (hm : m ≤ 9) {f : Nat → Int} (h : ∀ t, t < m → (f t).natAbs < 2 ^ b) : (sumN m f).natAbs < 2 ^ (b + 4) := by
  have := sumN_abs (b := 2 ^ b) fun t ht => Nat.le_of_lt (h t ht)
  have p : 0 < 2 ^ b := Nat.pow_pos (by decide)
  have q : m * 2 ^ b ≤ 9 * 2 ^ b := Nat.mul_le_mul_right _ hm
  rw [Nat.pow_add]
  omega
theorem summed_bits (hF : F.length ≤ 9) (h : ∀ t, t < F.length → Cells n (fun x => x.natAbs < 2 ^ 410) (tbl F t)) (hx : ∀ t, t < 9 → (x t).natAbs < 1024) : Cells n (fun x => x.natAbs < 2 ^ 430) (summedT F x) := fun i j hi hj => by
  have := sum_bits (a := 0) (b := 420) hF (f := fun t => x t * tbl F t i j) fun t ht => by
    rw [Int.natAbs_mul, show (420 : Nat) = 10 + 410 from rfl, Nat.pow_add]
    exact Nat.mul_lt_mul'' (hx t (by omega)) (h t ht i j hi hj)
  exact Nat.lt_of_lt_of_le this (Nat.pow_le_pow_right (by decide) (by omega))
theorem rows_bits {b : Nat} {T : Tb} (h : Cells n (fun x => x.natAbs < 2 ^ b) T) : ∀ r ∈ rowsOf n T, Bt n b r := fun r hr j hj => by
  obtain ⟨i, hi, rfl⟩ := List.mem_map.mp hr
  exact h i j (List.mem_range.mp hi) hj
theorem told_bits (hn : n = 1 ∨ n = 2 ∨ n = 3) (h1 : Sml n Ts) (h2 : Sml n Os) (h : told n Ts Os = some X) : Cells n (fun x => x.natAbs < 2 ^ 430) X := by
  obtain ⟨_, _, x, rfl, hx⟩ := told_some hn h
  exact summed_bits (Nat.le_trans chgs_len (nn9 hn)) (chgs_bits hn h1 h2) hx
theorem powers_lt {p t : Nat} (hp : p < 4) (ht : t < 9) : (powers p t).natAbs < 1024 := by
  unfold powers
  rw [Int.natAbs_pow]
  have h1 : ((t : Int) + 1).natAbs ≤ 9 := by omega
  exact Nat.lt_of_le_of_lt (Nat.le_trans (Nat.pow_le_pow_left h1 p) (Nat.pow_le_pow_right (n := 9) (by decide) (show p ≤ 3 by omega))) (by decide)
end
def fib : Nat → Nat
  | 0 => 0
  | 1 => 1
  | n + 2 => fib (n + 1) + fib n
theorem fib11 (n : Nat) : 11 * fib (n + 6) ≤ fib (n + 11) := by
  have e : ∀ m, fib (m + 2) = fib (m + 1) + fib m := fun _ => rfl
  have h2 := e n
  have h3 := e (n + 1)
  have h4 := e (n + 2)
  have h5 := e (n + 3)
  have h6 := e (n + 4)
  have h7 := e (n + 5)
  have h8 := e (n + 6)
  have h9 := e (n + 7)
  have h10 := e (n + 8)
  have h11 := e (n + 9)
  simp only [Nat.add_assoc, Nat.reduceAdd] at h2 h3 h4 h5 h6 h7 h8 h9 h10 h11
  omega
theorem fib_pow (n : Nat) : ∀ k, 11 ^ k * fib (n + 6) ≤ fib (n + 6 + 5 * k)
  | 0 => by simp
  | k + 1 => by
    have h := fib_pow n k
    have g := fib11 (n + 5 * k)
    have e1 : n + 5 * k + 6 = n + 6 + 5 * k := by omega
    have e2 : n + 5 * k + 11 = n + 6 + 5 * (k + 1) := by omega
    rw [e1, e2] at g
    rw [Nat.pow_succ, Nat.mul_comm (11 ^ k), Nat.mul_assoc]
    exact Nat.le_trans (Nat.mul_le_mul_left 11 h) g
theorem fib_laps : ∀ m, 10 ^ (50 * m) ≤ fib (10 + 250 * m)
  | 0 => by decide
  | m + 1 => by
    have h := fib_laps m
    have g := fib_pow (4 + 250 * m) 50
    have e1 : 4 + 250 * m + 6 = 10 + 250 * m := by omega
    have e2 : 10 + 250 * m + 5 * 50 = 10 + 250 * (m + 1) := by omega
    rw [e1, e2] at g
    refine Nat.le_trans ?_ g
    rw [Nat.mul_succ, Nat.pow_add, Nat.mul_comm]
    exact Nat.mul_le_mul (by decide) h
def stp : Nat → Nat × Nat → Nat × Nat
  | 0, p => p
  | n + 1, p => stp n (p.2, p.1 % p.2)
theorem stp_succ : ∀ (n : Nat) (p : Nat × Nat), stp (n + 1) p = ((stp n p).2, (stp n p).1 % (stp n p).2)
  | 0, _ => rfl
  | n + 1, p => by
    show stp (n + 1) (p.2, p.1 % p.2) = _
    rw [stp_succ n (p.2, p.1 % p.2)]
    rfl
theorem stp_gcd : ∀ (n : Nat) (p : Nat × Nat), Nat.gcd (stp n p).1 (stp n p).2 = Nat.gcd p.1 p.2
  | 0, _ => rfl
  | n + 1, p => by
    show Nat.gcd (stp n (p.2, p.1 % p.2)).1 (stp n (p.2, p.1 % p.2)).2 = _
    rw [stp_gcd n (p.2, p.1 % p.2)]
    show Nat.gcd p.2 (p.1 % p.2) = _
    rw [Nat.gcd_comm, ← Nat.gcd_rec, Nat.gcd_comm]
theorem stp_fib : ∀ (n a b : Nat), (∀ j, j ≤ n → (stp j (a, b)).2 ≠ 0) → fib (n + 1) ≤ b ∧ (b ≤ a → fib (n + 2) ≤ a)
  | 0, a, b, h => by
    have := h 0 (Nat.le_refl _)
    have h1 : b ≠ 0 := this
    have e1 : fib (0 + 1) = 1 := rfl
    have e2 : fib (0 + 2) = 1 := rfl
    rw [e1, e2]
    omega
  | n + 1, a, b, h => by
    have h0 : b ≠ 0 := h 0 (by omega)
    obtain ⟨i1, i2⟩ := stp_fib n b (a % b) fun j hj => h (j + 1) (by omega)
    have lt := Nat.mod_lt a (show 0 < b by omega)
    have i2 := i2 (by omega)
    refine ⟨i2, fun le => ?_⟩
    have e : fib (n + 1 + 2) = fib (n + 2) + fib (n + 1) := rfl
    rw [e]
    have d : b + a % b ≤ a := by
      have h1 := Nat.div_add_mod a b
      have h2 : 1 ≤ a / b := (Nat.one_le_div_iff (by omega)).mpr le
      have h3 : b * 1 ≤ b * (a / b) := Nat.mul_le_mul_left b h2
      omega
    omega
/-- the laps are enough -/
theorem laps_ok {a b m : Nat} (h : max a b < 10 ^ (50 * m)) : ∃ j, j ≤ 9 + 250 * m ∧ (stp j (a, b)).2 = 0 := by
  apply Classical.byContradiction
  intro no
  have := (stp_fib (9 + 250 * m) a b fun j hj z => no ⟨j, hj, z⟩).1
  have f := fib_laps m
  have e : 9 + 250 * m + 1 = 10 + 250 * m := by omega
  rw [e] at this
  omega
theorem lim_ok {a : Nat} (h : a < 2 ^ 9000) : a < 10 ^ (50 * 200) := Nat.lt_trans h (by
  have : (2 : Nat) ^ 9000 ≤ (2 ^ 3) ^ 3000 := by rw [← Nat.pow_mul]; exact Nat.le_refl _
  refine Nat.lt_of_le_of_lt this (Nat.lt_of_le_of_lt (Nat.pow_le_pow_left (show 2 ^ 3 ≤ 10 by decide) 3000) ?_)
  exact Nat.pow_lt_pow_right (by decide) (by omega))
end La
-- M14
namespace La
def tot (f : Poly → Nat) : PState → Nat
  | [] => 0
  | kv :: S => f kv.2 + tot f S
def Ns (S : PState) : Prop := (S.map Prod.fst).Nodup
section
variable {f : Poly → Nat} {S : PState} {k : List Nat} {P : Poly} {p : Poly → Prop}
theorem tot_append {S' : PState} : tot f (S ++ S') = tot f S + tot f S' := by
  induction S with
  | nil => simp [tot]
  | cons a S ih => simp only [List.cons_append, tot]; rw [ih]; omega
theorem s_any : (S.any fun kv => decide (kv.1 = k)) = true ↔ k ∈ S.map Prod.fst := by
  rw [List.any_eq_true, List.mem_map]
  constructor
  · rintro ⟨kv, h, q⟩; exact ⟨kv, h, of_decide_eq_true q⟩
  · rintro ⟨kv, h, q⟩; exact ⟨kv, h, decide_eq_true q⟩
theorem sget_not (h : k ∉ S.map Prod.fst) : sget S k = [] := by
  unfold sget
  rw [List.find?_eq_none.mpr]
  · rfl
  · intro kv hkv q
    exact h (List.mem_map.mpr ⟨kv, hkv, of_decide_eq_true q⟩)
theorem s_fix (h : k ∉ S.map Prod.fst) : S.map (fun kv => if kv.1 = k then (kv.1, P) else kv) = S := by
  induction S with
  | nil => rfl
  | cons a S ih =>
    rw [List.map_cons, List.mem_cons, not_or] at h
    rw [List.map_cons, ih h.2, if_neg (fun z => h.1 z.symm)]
theorem tot_sput (h : Ns S) (f0 : f [] = 0) : tot f (sput S k P) + f (sget S k) = tot f S + f P := by
  unfold sput
  split
  · rename_i q
    have m := s_any.mp q
    clear q
    induction S with
    | nil => cases m
    | cons a S ih =>
      have nd := List.nodup_cons.mp (show (a.1 :: S.map Prod.fst).Nodup from h)
      by_cases e : a.1 = k
      · rw [List.map_cons, if_pos e, s_fix (by rw [← e]; exact nd.1)]
        have : sget (a :: S) k = a.2 := by unfold sget; rw [List.find?_cons, decide_eq_true e]; rfl
        rw [this]
        simp only [tot]
        omega
      · have m2 : k ∈ S.map Prod.fst := by
          rw [List.map_cons] at m
          exact (List.mem_cons.mp m).resolve_left fun z => e z.symm
        rw [List.map_cons, if_neg e]
        have : sget (a :: S) k = sget S k := by unfold sget; rw [List.find?_cons, decide_eq_false e]
        rw [this]
        simp only [tot]
        have := ih nd.2 m2
        omega
  · rename_i q
    have m : k ∉ S.map Prod.fst := fun z => q (s_any.mpr z)
    rw [tot_append, sget_not m, f0]
    simp [tot]
theorem keys_sput : (sput S k P).map Prod.fst = if k ∈ S.map Prod.fst then S.map Prod.fst else S.map Prod.fst ++ [k] := by
  unfold sput
  by_cases q : k ∈ S.map Prod.fst
  · rw [if_pos (s_any.mpr q), if_pos q, List.map_map]
    apply List.map_congr_left
    intro kv _
    show (if kv.1 = k then (kv.1, P) else kv).1 = kv.1
    split <;> rfl
  · rw [if_neg (fun z => q (s_any.mp z)), if_neg q, List.map_append]
    rfl
theorem ns_sput (h : Ns S) : Ns (sput S k P) := by
  unfold Ns
  rw [keys_sput]
  split
  · exact h
  · rename_i q
    rw [List.nodup_append]
    exact ⟨h, by simp, fun a ha b hb e => q (by rw [← List.mem_singleton.mp hb, ← e]; exact ha)⟩
theorem all_sput (h : ∀ kv ∈ S, p kv.2) (hP : p P) : ∀ kv ∈ sput S k P, p kv.2 := by
  intro kv m
  unfold sput at m
  split at m
  · obtain ⟨x, hx, rfl⟩ := List.mem_map.mp m
    show p (if x.1 = k then (x.1, P) else x).2
    split
    · exact hP
    · exact h x hx
  · rcases List.mem_append.mp m with q | q
    · exact h kv q
    · rw [List.mem_singleton.mp q]; exact hP
theorem sget_all (h : ∀ kv ∈ S, p kv.2) (h0 : p []) : p (sget S k) := by
  unfold sget
  cases e : S.find? fun kv => decide (kv.1 = k) with
  | none => exact h0
  | some kv => exact h kv (List.mem_of_find?_eq_some e)
theorem tot_mem {kv : List Nat × Poly} (m : kv ∈ S) : f kv.2 ≤ tot f S := by
  induction S with
  | nil => cases m
  | cons a S ih =>
    simp only [tot]
    rcases List.mem_cons.mp m with q | q
    · rw [q]; omega
    · have := ih q; omega
theorem tot_get (f0 : f [] = 0) : f (sget S k) ≤ tot f S := by
  unfold sget
  cases e : S.find? fun kv => decide (kv.1 = k) with
  | none => show f [] ≤ _; rw [f0]; exact Nat.zero_le _
  | some kv => exact tot_mem (List.mem_of_find?_eq_some e)
end
theorem addIn_len' {Ts : List Tb} {a k : Nat} {sg : Int} {kv : List Nat × Int} {p : Poly} : ∀ m, ((List.range m).foldl (fun p t => if tbl Ts t a k ≠ 0 then padd p (isort (kv.1 ++ [t])) (sg * kv.2 * tbl Ts t a k) else p) p).length ≤ p.length + m
  | 0 => Nat.le_refl _
  | m + 1 => by
    have ih := addIn_len' (Ts := Ts) (a := a) (k := k) (sg := sg) (kv := kv) (p := p) m
    rw [List.range_succ, List.foldl_append]
    simp only [List.foldl_cons, List.foldl_nil]
    generalize (List.range m).foldl (fun p t => if tbl Ts t a k ≠ 0 then padd p (isort (kv.1 ++ [t])) (sg * kv.2 * tbl Ts t a k) else p) p = q at ih
    split
    · have := len_padd (d := q) (k := isort (kv.1 ++ [m])) (c := sg * kv.2 * tbl Ts m a k)
      omega
    · omega
theorem added_len' {p : Poly} {Ts : List Tb} {a k : Nat} {sg : Int} {M : Poly} : (addedM p M Ts a k sg).length ≤ p.length + M.length * Ts.length := by
  induction M generalizing p with
  | nil => show p.length ≤ _; simp
  | cons kv M ih =>
    have e : addedM p (kv :: M) Ts a k sg = addedM ((List.range Ts.length).foldl (fun p t => if tbl Ts t a k ≠ 0 then padd p (isort (kv.1 ++ [t])) (sg * kv.2 * tbl Ts t a k) else p) p) M Ts a k sg := rfl
    rw [e]
    have h1 := ih (p := (List.range Ts.length).foldl (fun p t => if tbl Ts t a k ≠ 0 then padd p (isort (kv.1 ++ [t])) (sg * kv.2 * tbl Ts t a k) else p) p)
    have h2 := addIn_len' (Ts := Ts) (a := a) (k := k) (sg := sg) (kv := kv) (p := p) Ts.length
    rw [List.length_cons, Nat.succ_mul]
    omega
def lenP (P : Poly) : Nat := P.length
/-- what is kept of the states: c rows are done; l, m bound them -/
structure StOk (V c l m : Nat) (S : PState) : Prop where
  ns : Ns S
  pf : ∀ kv ∈ S, PF V c kv.2
  len : tot lenP S ≤ l
  nrm : tot nrm S ≤ m
  kl : ∀ kv ∈ S, kv.1.length ≤ c
section
variable {Ts : List Tb} {a k c l m n T : Nat} {S later : PState} {P : Poly} {taken : List Nat}
theorem sign_abs : (signOf taken k).natAbs = 1 ∧ (signOf taken k = 1 ∨ signOf taken k = -1) := by
  unfold signOf
  split
  · exact ⟨rfl, .inr rfl⟩
  · exact ⟨rfl, .inl rfl⟩
theorem cell_ok (h : StOk Ts.length (c + 1) l m later) (hP : PF Ts.length c P) (ht : taken.length ≤ c) (hT : tabNrm Ts a k Ts.length ≤ T) : StOk Ts.length (c + 1) (l + P.length * Ts.length) (m + La.nrm P * T) (detCell Ts a taken P later k) := by
  have g : PF Ts.length (c + 1) (sget later (isort (taken ++ [k]))) := sget_all (p := PF Ts.length (c + 1)) h.pf pf_nil
  refine ⟨ns_sput h.ns, all_sput (p := PF Ts.length (c + 1)) h.pf (added_ok (x := fun _ => 0) g hP.up).1, ?_, ?_, fun kv m => ?_⟩
  · have q := tot_sput (f := lenP) (k := isort (taken ++ [k])) (P := addedM (sget later (isort (taken ++ [k]))) P Ts a k (signOf taken k)) h.ns rfl
    have r := added_len' (p := sget later (isort (taken ++ [k]))) (Ts := Ts) (a := a) (k := k) (sg := signOf taken k) (M := P)
    have := h.len
    unfold detCell
    unfold lenP at *
    omega
  · have q := tot_sput (f := La.nrm) (k := isort (taken ++ [k])) (P := addedM (sget later (isort (taken ++ [k]))) P Ts a k (signOf taken k)) h.ns rfl
    have r := added_nrm (a := a) (k := k) (sign := signOf taken k) sign_abs.1 g hP.up
    have r2 : La.nrm P * tabNrm Ts a k Ts.length ≤ La.nrm P * T := Nat.mul_le_mul_left _ hT
    have := h.nrm
    unfold detCell
    omega
  · have mk : kv.1 ∈ (sput later (isort (taken ++ [k])) (addedM (sget later (isort (taken ++ [k]))) P Ts a k (signOf taken k))).map Prod.fst := List.mem_map.mpr ⟨kv, m, rfl⟩
    rw [keys_sput] at mk
    have old : kv.1 ∈ later.map Prod.fst → kv.1.length ≤ c + 1 := fun z => by
      obtain ⟨x, hx, e⟩ := List.mem_map.mp z
      rw [← e]
      exact h.kl x hx
    split at mk
    · exact old mk
    · rcases List.mem_append.mp mk with z | z
      · exact old z
      · rw [List.mem_singleton.mp z, isort_perm.length_eq, List.length_append]
        simp only [List.length_singleton]
        omega
def ksOf (n : Nat) (taken : List Nat) : List Nat := (List.range n).filter fun k => decide (k ∉ taken)
def laterI (n : Nat) (Ts : List Tb) (a : Nat) (S : PState) (i : Nat) : PState := (S.take i).foldl (fun later kv => (ksOf n kv.1).foldl (detCell Ts a kv.1 kv.2) later) []
def laterJ (n : Nat) (Ts : List Tb) (a : Nat) (S : PState) (i : Nat) (kv : List Nat × Poly) (j : Nat) : PState := ((ksOf n kv.1).take j).foldl (detCell Ts a kv.1 kv.2) (laterI n Ts a S i)
theorem ks_len : (ksOf n taken).length ≤ n := by
  have := List.length_filter_le (fun k => decide (k ∉ taken)) (List.range n)
  rwa [List.length_range] at this
theorem ks_mem {x : Nat} (h : x ∈ ksOf n taken) : x < n := List.mem_range.mp (List.mem_filter.mp h).1
theorem laterJ_zero {i : Nat} {kv : List Nat × Poly} : laterJ n Ts a S i kv 0 = laterI n Ts a S i := rfl
theorem laterJ_succ {i j x : Nat} {kv : List Nat × Poly} (h : (ksOf n kv.1)[j]? = some x) : laterJ n Ts a S i kv (j + 1) = detCell Ts a kv.1 kv.2 (laterJ n Ts a S i kv j) x := by
  unfold laterJ
  rw [List.take_succ, h, List.foldl_append]
  rfl
theorem laterI_succ {i : Nat} {kv : List Nat × Poly} (h : S[i]? = some kv) : laterI n Ts a S (i + 1) = laterJ n Ts a S i kv (ksOf n kv.1).length := by
  unfold laterI laterJ
  rw [List.take_succ, h, List.foldl_append, List.take_length]
  rfl
theorem laterI_all : laterI n Ts a S S.length = detRow n Ts a S := by
  unfold laterI detRow
  rw [List.take_length]
  rfl
theorem st_empty : StOk Ts.length c 0 0 [] := ⟨List.nodup_nil, fun _ h => (nomatch h), Nat.le_refl _, Nat.le_refl _, fun _ h => (nomatch h)⟩
theorem StOk.mono {l' m' : Nat} {V : Nat} (h : StOk V c l m S) (h1 : l ≤ l') (h2 : m ≤ m') : StOk V c l' m' S := ⟨h.ns, h.pf, Nat.le_trans h.len h1, Nat.le_trans h.nrm h2, h.kl⟩
theorem laterJ_ok {i : Nat} {kv : List Nat × Poly} (h9 : Ts.length ≤ 9) (hT : ∀ k, k < n → tabNrm Ts a k Ts.length ≤ T) (hP : PF Ts.length c kv.2) (hk : kv.1.length ≤ c) (h : StOk Ts.length (c + 1) l m (laterI n Ts a S i)) : ∀ j, j ≤ (ksOf n kv.1).length → StOk Ts.length (c + 1) (l + j * (kv.2.length * 9)) (m + j * (La.nrm kv.2 * T)) (laterJ n Ts a S i kv j)
  | 0, _ => by rw [laterJ_zero]; exact h.mono (by omega) (by omega)
  | j + 1, hj => by
    have e : (ksOf n kv.1)[j]? = some (ksOf n kv.1)[j] := List.getElem?_eq_getElem (by omega)
    rw [laterJ_succ e]
    have ih := laterJ_ok h9 hT hP hk h j (by omega)
    refine (cell_ok ih hP hk (hT _ (ks_mem (List.getElem_mem _)))).mono ?_ ?_
    · have : kv.2.length * Ts.length ≤ kv.2.length * 9 := Nat.mul_le_mul_left _ h9
      rw [Nat.succ_mul]
      omega
    · rw [Nat.succ_mul]
      omega
theorem tot_take {f : Poly → Nat} {i : Nat} {kv : List Nat × Poly} (h : S[i]? = some kv) : tot f (S.take (i + 1)) = tot f (S.take i) + f kv.2 := by
  rw [List.take_succ, h, tot_append]
  rfl
theorem laterI_ok (hn : n ≤ 3) (h9 : Ts.length ≤ 9) (hT : ∀ k, k < n → tabNrm Ts a k Ts.length ≤ T) (hS : ∀ kv ∈ S, PF Ts.length c kv.2) (hK : ∀ kv ∈ S, kv.1.length ≤ c) : ∀ i, i ≤ S.length → StOk Ts.length (c + 1) (27 * tot lenP (S.take i)) (3 * T * tot La.nrm (S.take i)) (laterI n Ts a S i)
  | 0, _ => st_empty
  | i + 1, hi => by
    have e : S[i]? = some S[i] := List.getElem?_eq_getElem (by omega)
    have ih := laterI_ok hn h9 hT hS hK i (by omega)
    rw [laterI_succ e]
    have k3 := Nat.le_trans (ks_len (n := n) (taken := S[i].1)) hn
    refine (laterJ_ok h9 hT (hS _ (List.getElem_mem _)) (hK _ (List.getElem_mem _)) ih _ (Nat.le_refl _)).mono ?_ ?_
    · rw [tot_take e]
      have : (ksOf n S[i].1).length * (S[i].2.length * 9) ≤ 3 * (S[i].2.length * 9) := Nat.mul_le_mul_right _ k3
      unfold lenP
      omega
    · rw [tot_take e]
      have : (ksOf n S[i].1).length * (La.nrm S[i].2 * T) ≤ 3 * (La.nrm S[i].2 * T) := Nat.mul_le_mul_right _ k3
      have e2 : 3 * T * (tot La.nrm (S.take i) + La.nrm S[i].2) = 3 * T * tot La.nrm (S.take i) + 3 * (La.nrm S[i].2 * T) := by grind
      omega
theorem states_ok (hn : n ≤ 3) (h9 : Ts.length ≤ 9) (hT : ∀ a k, a < n → k < n → tabNrm Ts a k Ts.length ≤ T) : ∀ a, a ≤ n → StOk Ts.length a (27 ^ a) ((3 * T) ^ a) (detStates n Ts a)
  | 0, _ => ⟨by unfold Ns; simp [detStates], fun kv m => by rw [List.mem_singleton.mp m]; exact pf_one, Nat.le_refl 1, Nat.le_refl 1, fun kv m => by rw [List.mem_singleton.mp m]; exact Nat.le_refl 0⟩
  | a + 1, ha => by
    have ih := states_ok hn h9 hT a (by omega)
    rw [detStates_succ, ← laterI_all]
    refine (laterI_ok hn h9 (fun k hk => hT a k (by omega) hk) ih.pf ih.kl _ (Nat.le_refl _)).mono ?_ ?_
    · rw [List.take_length, Nat.pow_succ, Nat.mul_comm]
      exact Nat.mul_le_mul_right _ ih.len
    · rw [List.take_length, Nat.pow_succ, Nat.mul_comm]
      exact Nat.mul_le_mul_right _ ih.nrm
end
end La
-- M15
namespace La
def stepT (i j : Nat) (b : Int) : Tb := fun k c => unitT k c + b * (if k = i ∧ c = j then 1 else 0)
def absN (n : Nat) (f : Nat → Int) : Int := sumN n fun c => ((f c).natAbs : Int)
section
variable {n : Nat} {A B V W T : Tb} {i j : Nat} {b : Int} {f g : Nat → Int}
theorem sumN_mono (h : ∀ c, c < n → f c ≤ g c) : sumN n f ≤ sumN n g := by
  induction n with
  | zero => exact Int.le_refl _
  | succ n ih =>
    simp only [sumN]
    have := ih fun c hc => h c (by omega)
    have := h n (by omega)
    omega
theorem sumN_nonneg (h : ∀ c, c < n → 0 ≤ f c) : 0 ≤ sumN n f := by
  have := sumN_mono h
  rwa [sumN_zero fun _ _ => rfl] at this
theorem absN_one {c : Nat} (hc : c < n) : ((f c).natAbs : Int) ≤ absN n f := by
  unfold absN
  have e : sumN n (fun d => if d = c then ((f c).natAbs : Int) else 0) = ((f c).natAbs : Int) := by
    rw [sumN_one hc (fun d _ ne => if_neg ne), if_pos rfl]
  rw [← e]
  refine sumN_mono fun d _ => ?_
  split
  · rename_i q; rw [q]; exact Int.le_refl _
  · omega
theorem abs_dot {t : Nat} (h : ∀ c, c < n → (g c).natAbs ≤ t) : ((sumN n fun c => f c * g c).natAbs : Int) ≤ t * absN n f := by
  unfold absN
  induction n with
  | zero => simp [sumN]
  | succ n ih =>
    simp only [sumN]
    have h1 := ih fun c hc => h c (by omega)
    have h2 := Int.natAbs_add_le (sumN n fun c => f c * g c) (f n * g n)
    have h3 : ((f n * g n).natAbs : Int) ≤ t * ((f n).natAbs : Int) := by
      rw [Int.natAbs_mul, Int.natCast_mul, Int.mul_comm]
      exact Int.mul_le_mul_of_nonneg_right (by have := h n (by omega); omega) (by omega)
    rw [Int.mul_add]
    omega
theorem mul_step (hi : i < n) {k c : Nat} (hc : c < n) : mulT n V (stepT i j b) k c = V k c + (if c = j then b * V k i else 0) := by
  unfold mulT stepT
  have e : (sumN n fun m => V k m * (unitT m c + b * (if m = i ∧ c = j then 1 else 0))) = sumN n fun m => V k m * unitT m c + (if m = i ∧ c = j then b * V k i else 0) := sumN_congr fun m _ => by
    by_cases q : m = i ∧ c = j
    · rw [if_pos q, if_pos q, q.1, Int.mul_add, Int.mul_one, Int.mul_comm b]
    · rw [if_neg q, if_neg q, Int.mul_zero, Int.add_zero, Int.add_zero]
  rw [e, sumN_add]
  congr 1
  · have := sumN_one (n := n) (f := fun m => V k m * unitT m c) hc fun m _ ne => by
      show V k m * unitT m c = 0
      unfold unitT
      rw [if_neg ne, Int.mul_zero]
    rw [this]
    unfold unitT
    rw [if_pos rfl, Int.mul_one]
  · by_cases q : c = j
    · rw [if_pos q, sumN_one hi fun m _ ne => if_neg fun z => ne z.1, if_pos ⟨rfl, q⟩]
    · rw [if_neg q]
      exact sumN_zero fun m _ => if_neg fun z => q z.2
theorem step_mul (hj : j < n) {k c : Nat} (hk : k < n) : mulT n (stepT i j b) W k c = W k c + (if k = i then b * W j c else 0) := by
  unfold mulT stepT
  have e : (sumN n fun m => (unitT k m + b * (if k = i ∧ m = j then 1 else 0)) * W m c) = sumN n fun m => unitT k m * W m c + (if k = i ∧ m = j then b * W j c else 0) := sumN_congr fun m _ => by
    by_cases q : k = i ∧ m = j
    · rw [if_pos q, if_pos q, q.2, Int.add_mul, Int.mul_one]
    · rw [if_neg q, if_neg q, Int.mul_zero, Int.add_zero, Int.add_zero]
  rw [e, sumN_add]
  congr 1
  · have := sumN_one (n := n) (f := fun m => unitT k m * W m c) hk fun m _ ne => by
      show unitT k m * W m c = 0
      unfold unitT
      rw [if_neg (fun z => ne z.symm), Int.zero_mul]
    rw [this]
    unfold unitT
    rw [if_pos rfl, Int.one_mul]
  · by_cases q : k = i
    · rw [if_pos q, sumN_one hj fun m _ ne => if_neg fun z => ne z.2, if_pos ⟨q, rfl⟩]
    · rw [if_neg q]
      exact sumN_zero fun m _ => if_neg fun z => q z.1
theorem step_inv (hi : i < n) (hj : j < n) (ne : i ≠ j) : EqT n (mulT n (stepT i j (0 - b)) (stepT i j b)) unitT := fun k c hk hc => by
  rw [mul_step hi hc]
  unfold stepT
  by_cases q : k = i <;> by_cases q2 : c = j
  · rw [if_pos ⟨q, q2⟩, if_pos q2, if_neg (fun z => ne z.2)]
    have : unitT k i = 1 := if_pos q
    rw [this]
    grind
  · rw [if_neg (fun z => q2 z.2), if_neg q2]
    simp
  · rw [if_neg (fun z => q z.1), if_pos q2, if_neg (fun z => ne z.2)]
    have : unitT k i = 0 := if_neg q
    rw [this]
    simp
  · rw [if_neg (fun z => q z.1), if_neg q2]
    simp
/-- a view and its back -/
structure Bk (n r : Nat) (V W : Tb) : Prop where
  inv : EqT n (mulT n W V) unitT
  row : ∀ k, k < n → absN n (V k) ≤ r
  col : ∀ c, c < n → absN n (fun k => W k c) ≤ r
theorem bk_unit : Bk n 1 unitT unitT := ⟨mulT_unitL, fun k hk => by
  unfold absN
  rw [sumN_one hk fun c _ ne => by unfold unitT; rw [if_neg (fun z => ne z.symm)]; rfl]
  unfold unitT
  rw [if_pos rfl]
  exact Int.le_refl _, fun c hc => by
  unfold absN
  rw [sumN_one hc fun k _ ne => by show ((unitT k c).natAbs : Int) = 0; unfold unitT; rw [if_neg ne]; rfl]
  show ((unitT c c).natAbs : Int) ≤ _
  unfold unitT
  rw [if_pos rfl]
  exact Int.le_refl _⟩
theorem abs_plus {j : Nat} (hj : j < n) {x : Int} {r : Int} (hr : absN n f ≤ r) (hx : (x.natAbs : Int) ≤ r) (h : ∀ c, c < n → g c = f c + (if c = j then x else 0)) : absN n g ≤ 2 * r := by
  have e : sumN n (fun c => ((f c).natAbs : Int) + (if c = j then (x.natAbs : Int) else 0)) = absN n f + (x.natAbs : Int) := by
    rw [sumN_add, sumN_one (k := j) hj fun c _ ne => if_neg ne, if_pos rfl]
    rfl
  have : absN n g ≤ absN n f + (x.natAbs : Int) := by
    rw [← e]
    unfold absN
    refine sumN_mono fun c hc => ?_
    rw [h c hc]
    split <;> omega
  omega
theorem Bk.step {r : Nat} (h : Bk n r V W) (hi : i < n) (hj : j < n) (ne : i ≠ j) (hb : b.natAbs ≤ 1) : Bk n (2 * r) (mulT n V (stepT i j b)) (mulT n (stepT i j (0 - b)) W) := by
  have pm : ∀ x : Int, (b * x).natAbs ≤ x.natAbs ∧ ((0 - b) * x).natAbs ≤ x.natAbs := fun x => by
    have h1 : (0 - b).natAbs ≤ 1 := by omega
    rw [Int.natAbs_mul, Int.natAbs_mul]
    exact ⟨by have := Nat.mul_le_mul_right x.natAbs hb; omega, by have := Nat.mul_le_mul_right x.natAbs h1; omega⟩
  refine ⟨?_, fun k hk => ?_, fun c hc => ?_⟩
  · have e : mulT n (mulT n (stepT i j (0 - b)) W) (mulT n V (stepT i j b)) = mulT n (stepT i j (0 - b)) (mulT n (mulT n W V) (stepT i j b)) := by
      rw [mulT_assoc, mulT_assoc]
    rw [e]
    exact (mulT_congr .refl ((mulT_congr h.inv .refl).trans mulT_unitL)).trans (step_inv hi hj ne)
  · have := abs_plus (f := V k) (g := mulT n V (stepT i j b) k) (j := j) hj (x := b * V k i) (h.row k hk) (Int.le_trans (by have := (pm (V k i)).1; omega) (Int.le_trans (absN_one hi) (h.row k hk))) fun c hc => mul_step hi hc
    rw [Int.natCast_mul]
    exact this
  · have := abs_plus (f := fun k => W k c) (g := fun k => mulT n (stepT i j (0 - b)) W k c) (j := i) hi (x := (0 - b) * W j c) (h.col c hc) (Int.le_trans (by have := (pm (W j c)).2; omega) (Int.le_trans (absN_one (f := fun k => W k c) hj) (h.col c hc))) fun k hk => step_mul hj hk
    rw [Int.natCast_mul]
    exact this
theorem Bk.mono {r r' : Nat} (h : Bk n r V W) (l : r ≤ r') : Bk n r' V W := ⟨h.inv, fun k hk => Int.le_trans (h.row k hk) (by omega), fun c hc => Int.le_trans (h.col c hc) (by omega)⟩
def CellsLe (n t : Nat) (T : Tb) : Prop := Cells n (fun x => x.natAbs ≤ t) T
theorem CellsLe.mono {t t' : Nat} (h : CellsLe n t T) (l : t ≤ t') : CellsLe n t' T := fun i j hi hj => Nat.le_trans (h i j hi hj) l
theorem Bk.right {r t : Nat} (h : Bk n r V W) (hT : CellsLe n t T) : CellsLe n (t * r) (mulT n T W) := fun k c hk hc => by
  have e : mulT n T W k c = sumN n fun m => W m c * T k m := sumN_congr fun m _ => Int.mul_comm _ _
  have h1 := abs_dot (f := fun m => W m c) (g := T k) (t := t) fun m hm => hT k m hk hm
  rw [← e] at h1
  have h2 := Int.mul_le_mul_of_nonneg_left (h.col c hc) (show (0 : Int) ≤ t by omega)
  show (mulT n T W k c).natAbs ≤ t * r
  have h3 : ((t * r : Nat) : Int) = (t : Int) * r := Int.natCast_mul ..
  omega
theorem Bk.left {r t : Nat} (h : Bk n r V W) (hT : CellsLe n t T) : CellsLe n (t * r) (mulT n V T) := fun k c hk hc => by
  have h1 := abs_dot (f := V k) (g := fun m => T m c) (t := t) fun m hm => hT m c hm hc
  have h2 := Int.mul_le_mul_of_nonneg_left (h.row k hk) (show (0 : Int) ≤ t by omega)
  have h3 : ((t * r : Nat) : Int) = (t : Int) * r := Int.natCast_mul ..
  show (sumN n fun m => V k m * T m c).natAbs ≤ t * r
  omega
theorem Bk.moved {t : Nat} (h : Bk n 4 V W) (hT : CellsLe n t T) : CellsLe n (t * 16) (mulT n V (mulT n T W)) := (h.left (h.right hT)).mono (by omega)
theorem Bk.own {r : Nat} (h : Bk n r V W) : CellsLe n r V ∧ CellsLe n r W := ⟨fun k c hk hc => by
  have := Int.le_trans (absN_one (f := V k) hc) (h.row k hk)
  show (V k c).natAbs ≤ r
  omega, fun k c hk hc => by
  have := Int.le_trans (absN_one (f := fun k => W k c) hk) (h.col c hc)
  show (W k c).natAbs ≤ r
  omega⟩
theorem mul_cells {s t : Nat} (hA : CellsLe n s A) (hB : CellsLe n t B) : CellsLe n (n * (s * t)) (mulT n A B) := fun i j hi hj => sumN_abs fun k hk => by
  rw [Int.natAbs_mul]
  exact Nat.mul_le_mul (hA i k hi hk) (hB k j hk hj)
/-- the moved tables are the same in another view -/
theorem Bk.chg {r : Nat} {Ts : List Tb} (h : Bk n r V W) : Chg n Ts (Ts.map fun T => mulT n V (mulT n T W)) V := fun p hp => by
  have e : p.2 = mulT n V (mulT n p.1 W) := by
    induction Ts with
    | nil => cases hp
    | cons T Ts ih =>
      rw [List.map_cons, List.zip_cons_cons] at hp
      rcases List.mem_cons.mp hp with rfl | hp
      · rfl
      · exact ih hp
  rw [e]
  have e2 : mulT n (mulT n V (mulT n p.1 W)) V = mulT n V (mulT n p.1 (mulT n W V)) := by rw [mulT_assoc, mulT_assoc]
  rw [e2]
  exact (mulT_congr .refl ((mulT_congr .refl h.inv).trans mulT_unitR)).symm
theorem Bk.det {r : Nat} (h : Bk n r V W) (hn : n = 1 ∨ n = 2 ∨ n = 3) : det n V ≠ 0 := det_inv hn h.inv
end
def moreSums (n : Nat) (T X : Tb) : List Tb := (List.range (n + 1)).map fun m : Nat => fun i j => X i j + (m : Int) * T i j
def sumStep (n : Nat) (S : List Tb) (T : Tb) : List Tb := S.flatMap (moreSums n T)
def sumsL (n : Nat) (F : List Tb) : List Tb := F.foldl (sumStep n) [fun _ _ => 0]
def chgsL (n : Nat) (Ts Os : List Tb) : List Tb := (nullsL (n * n) (condRows n Ts Os)).map (tabOf n)
section
variable {n : Nat} {Ts Os F : List Tb} {X T : Tb}
theorem moreSums_len : (moreSums n T X).length = n + 1 := by unfold moreSums; rw [List.length_map, List.length_range]
theorem sumStep_len {S : List Tb} : (sumStep n S T).length = S.length * (n + 1) := by
  unfold sumStep
  induction S with
  | nil => simp
  | cons X S ih =>
    rw [List.flatMap_cons, List.length_append, moreSums_len, ih, List.length_cons, Nat.succ_mul]
    omega
theorem sumsL_take {m : Nat} (h : m < F.length) : sumsL n (F.take (m + 1)) = sumStep n (sumsL n (F.take m)) (tbl F m) := by
  unfold sumsL
  rw [List.take_succ, List.getElem?_eq_getElem h, Option.toList_some, List.foldl_append]
  unfold tbl
  rw [List.getD_eq_getElem?_getD, List.getElem?_eq_getElem h]
  rfl
theorem sumsL_len : ∀ m, m ≤ F.length → (sumsL n (F.take m)).length = (n + 1) ^ m
  | 0, _ => by simp [sumsL]
  | m + 1, h => by rw [sumsL_take (by omega), sumStep_len, sumsL_len m (by omega), Nat.pow_succ]
theorem sumsL_mem : ∀ m, m ≤ F.length → ∀ X ∈ sumsL n (F.take m), ∃ x : Nat → Int, (∀ t, 0 ≤ x t ∧ x t ≤ n) ∧ X = fun i j => sumN m fun t => x t * tbl F t i j
  | 0, _, X, h => by
    rw [List.take_zero] at h
    exact ⟨fun _ => 0, fun _ => ⟨Int.le_refl _, by show (0 : Int) ≤ n; omega⟩, by rw [List.mem_singleton.mp (show X ∈ [fun _ _ => 0] from h)]; rfl⟩
  | m + 1, hm, X, h => by
    rw [sumsL_take (by omega)] at h
    obtain ⟨Y, hY, hX⟩ := List.mem_flatMap.mp h
    obtain ⟨b, hb, rfl⟩ := List.mem_map.mp hX
    obtain ⟨x, hx, rfl⟩ := sumsL_mem m (by omega) Y hY
    have := List.mem_range.mp hb
    refine ⟨fun t => if t = m then b else x t, fun t => by
      have := hx t
      dsimp only
      split <;> omega, ?_⟩
    funext i j
    show _ = (sumN m fun t => (if t = m then (b : Int) else x t) * tbl F t i j) + (if m = m then (b : Int) else x m) * tbl F m i j
    rw [if_pos rfl]
    congr 1
    exact sumN_congr fun t ht => by rw [if_neg (by omega)]
theorem sumsL_all : ∀ X ∈ sumsL n F, ∃ x : Nat → Int, (∀ t, 0 ≤ x t ∧ x t ≤ n) ∧ X = summedT F x := fun X h => by
  have := sumsL_mem F.length (Nat.le_refl _) X (by rwa [List.take_length])
  exact this
theorem chgsL_chg : ∀ t, t < (chgsL n Ts Os).length → Chg n Ts Os (tbl (chgsL n Ts Os) t) := fun t ht => by
  obtain ⟨v, hv, e⟩ := List.mem_map.mp (tbl_mem ht)
  show Chg n Ts Os (tbl (List.map (tabOf n) (nullsL (n * n) (condRows n Ts Os))) t)
  rw [← e]
  exact cond_iff.mp (nullsL_sp.mp (.mem hv))
theorem chgsL_bits (hn : n = 1 ∨ n = 2 ∨ n = 3) (h1 : Sml n Ts) (h2 : Sml n Os) : ∀ t, t < (chgsL n Ts Os).length → Cells n (fun x => x.natAbs < 2 ^ 410) (tbl (chgsL n Ts Os) t) := fun t ht i j hi hj => by
  obtain ⟨v, hv, e⟩ := List.mem_map.mp (show tbl ((nullsL (n * n) (condRows n Ts Os)).map (tabOf n)) t ∈ _ from tbl_mem ht)
  rw [show tbl (chgsL n Ts Os) t = tabOf n v from e.symm]
  exact (nullL_fine (nn9 hn) (cond_bits h1 h2)).2 v hv _ (ix_lt hi hj)
theorem sumsL_bits (h9 : F.length ≤ 9) (hn : n ≤ 3) (hF : ∀ t, t < F.length → Cells n (fun x => x.natAbs < 2 ^ 410) (tbl F t)) : ∀ X ∈ sumsL n F, Cells n (fun x => x.natAbs < 2 ^ 430) X := fun X h => by
  obtain ⟨x, hx, rfl⟩ := sumsL_all X h
  exact summed_bits h9 hF fun t _ => by have := hx t; omega
theorem rank_det (hn : n = 1 ∨ n = 2 ∨ n = 3) : (reducedL n (rowsOf n X)).length = n ↔ det n X ≠ 0 := by rw [rankL_iff, det_triv hn]
/-- nothing is told: none of the sums is regular -/
theorem none_regular (hn : n = 1 ∨ n = 2 ∨ n = 3) (h : told n Ts Os = none) : ∀ X ∈ sumsL n (chgsL n Ts Os), (reducedL n (rowsOf n X)).length ≠ n := fun X hX e => by
  obtain ⟨x, _, rfl⟩ := sumsL_all X hX
  exact (rank_det hn).mp e (told_none hn h _ (chg_sum chgsL_chg))
end
end La
-- R0
namespace Wk
open PySem PySem.Spec PyProof.Rows L2

/-- a list (k = true) or a tuple -/
def SqB (k : Bool) (K : PySem.W.Frag) (H : Hp) (a : Addr) (xs : List V) : Prop := match k with
  | true => SqL K H a xs
  | false => SqT K H a xs
def Sq (K : PySem.W.Frag) (H : Hp) (a : Addr) (xs : List V) : Prop := ∃ k, SqB k K H a xs
def seqB (k : Bool) (h : Heap) (a : Addr) (its : Array Value) : Prop := match k with
  | true => h.IsList a its
  | false => h.IsTuple a its
def itB (k : Bool) (h : Heap) (it a : Addr) (i : Nat) : Prop := match k with
  | true => h.IsListIter it a i
  | false => h.IsTupleIter it a i
def objB (k : Bool) (a : Addr) : Obj := match k with
  | true => { cls := .type "list_iterator", data := .fields #[.ref a, .int 0 0] }
  | false => { cls := .type "tuple_iterator", data := .fields #[.ref a, .int 0 0] }
theorem beginsB (k : Bool) (a : Addr) (its : Array Value) : Begins (.ref a) (objB k a) fun h => seqB k h a its := by
  cases k with
  | true => exact begins_list a its
  | false => exact begins_tuple a its
theorem drawsB {P : Program} {w : World} {A : Around} (hh : A.handled = none) (k : Bool) (it a : Addr) (ne : a ≠ it) (its : Array Value) :
    Draws P w A it [it, a] its.size (fun i v => its[i]? = some v) (fun i h => itB k h it a i ∧ seqB k h a its) := by
  cases k with
  | true => exact Draws.list hh it a ne its
  | false => exact Draws.tuple hh it a ne its
theorem itB_obj {k : Bool} {h : Heap} {it a : Addr} {i : Nat} (x : itB k h it a i) : ∃ o, h.get? it = some o ∧ ∀ v, o.data ≠ .cell v := by
  cases k with
  | true =>
    obtain ⟨o, e, _, d⟩ := (show h.IsListIter it a i from x)
    exact ⟨o, e, fun v q => by rw [d] at q; cases q⟩
  | false =>
    obtain ⟨o, e, _, d⟩ := (show h.IsTupleIter it a i from x)
    exact ⟨o, e, fun v q => by rw [d] at q; cases q⟩
theorem itB_at {k : Bool} {h h' : Heap} {it a : Addr} {i : Nat} (x : itB k h it a i) (kp : ∀ o, h.get? it = some o → h'.get? it = some o) : itB k h' it a i := by
  cases k with
  | true => exact (show h.IsListIter it a i from x).at kp
  | false => exact (show h.IsTupleIter it a i from x).at kp
theorem itB_start {k : Bool} {h : Heap} {it a : Addr} (e : h.get? it = some (objB k a)) : itB k h it a 0 := by
  cases k with
  | true => exact ⟨_, e, rfl, rfl⟩
  | false => exact ⟨_, e, rfl, rfl⟩
theorem seqB_lt {k : Bool} {h : Heap} {a : Addr} {its : Array Value} (x : seqB k h a its) : a < h.objs.size := by
  cases k with
  | true =>
    obtain ⟨o, e, _⟩ := (show h.IsList a its from x)
    exact Heap.lt_size e
  | false =>
    obtain ⟨o, e, _⟩ := (show h.IsTuple a its from x)
    exact Heap.lt_size e
section
variable {X : Cx} {pins : List (Addr × Obj)} {σ : L2.St} {H : Hp} {s : Shared} {a : Addr} {xs : List V}
theorem inv_sqB {k : Bool} (I : Inv X pins σ H s) (h : SqB k X.K H a xs) : ∃ its : List Value, Vals xs its ∧ seqB k s.heap a its.toArray := by
  cases k with
  | true =>
    obtain ⟨its, r, p, _⟩ := I.list (show SqL X.K H a xs from h)
    exact ⟨its, r, p.isList⟩
  | false =>
    obtain ⟨its, r, p, _⟩ := I.tuple (show SqT X.K H a xs from h)
    exact ⟨its, r, p⟩
/-- a turn that gives a new pair -/
theorem pair_turn {fp : List Addr} {h' : Heap} {tk : Nat} {T : Addr} {u1 u2 : Value} {x y : V} (I : Inv X pins σ H s) (hf : ∀ b ∈ fp, FpOk X pins H b) (lt : ∀ b ∈ fp, b < s.heap.objs.size)
    (kp : ∀ b o, b ∉ fp → s.heap.get? b = some o → h'.get? b = some o) (hT : s.heap.objs.size ≤ T) (tup : h'.IsTuple T #[u1, u2]) (r1 : RelV x u1) (r2 : RelV y u2) :
    Inv X pins σ (upd H T (.tup [x, y])) { s with heap := h', toks := tk } ∧ H T = none ∧ ∀ b ∈ fp, (upd H T (.tup [x, y])) b = none := by
  have new : ObjOk X.prog X.w (upd H T (.tup [x, y])) h' T (.tup [x, y]) := ⟨by show 2 ≤ sizeLine; decide, [u1, u2], .cons r1 (.cons r2 .nil), tup⟩
  refine ⟨I.turnedNew (ch := fp) kp hf hT new, I.hok.fresh hT, fun b hb => ?_⟩
  rw [upd_ne (Nat.ne_of_lt (Nat.lt_of_lt_of_le (lt b hb) hT))]
  exact (hf b hb).1
end

def iSq (K : PySem.W.Frag) (tl : TE) : TI := fun σ H R => tl σ H fun x H1 => ∃ a, x = .ref a ∧ (((∃ xs, SqL K H1 a xs) ∧ R (Itl K a) H1) ∨ ((∃ xs, SqT K H1 a xs) ∧ R (Itt K a) H1))
theorem pi_sq {X : Cx} {tg l : Expr} {tl : TE} (hl : PE X l tl) : PI X tg l (iSq X.K tl) := ⟨fun pins s σ H R I h => by
  refine thn (hl.run pins s σ H _ I h) fun v s1 z => ?_
  obtain ⟨x, H1, I1, r1, a, e, q⟩ := z
  subst e
  cases r1
  have fresh : ∀ b ∈ [s1.heap.objs.size], FpOk X pins H1 b := fun b hb => by
    rw [List.mem_singleton.mp hb]
    exact I1.fpOk (Nat.le_refl _) (I1.hok.fresh (Nat.le_refl _))
  rcases q with ⟨⟨xs, hq⟩, q⟩ | ⟨⟨xs, hq⟩, q⟩
  · obtain ⟨its, _, p, _⟩ := I1.list hq
    exact wpAny_pyIter_list p.isList ⟨_, _, _, _, H1, rfl, I1.kept (t' := s1.toks) (fun b o z => Heap.get?_push_of_some _ z), turn_list a s1.heap.objs.size, ⟨_, Heap.get?_push_size _ rfl, rfl, rfl⟩, fresh, q⟩
  · obtain ⟨its, _, p, _⟩ := I1.tuple hq
    exact wpAny_pyIter_tuple (show s1.heap.IsTuple a its.toArray from p) ⟨_, _, _, _, H1, rfl, I1.kept (t' := s1.toks) (fun b o z => Heap.get?_push_of_some _ z), turn_tuple a s1.heap.objs.size, ⟨_, Heap.get?_push_size _ rfl, rfl, rfl⟩, fresh, q⟩⟩

def ItzB (K : PySem.W.Frag) (k1 k2 : Bool) (a b : Addr) (xs ys : List V) : It where
  go := fun i H => SqB k1 K H a xs ∧ SqB k2 K H b ys ∧ i < min xs.length ys.length
  yld := fun i H v H' => ∃ T x y, v = .ref T ∧ H T = none ∧ H' = upd H T (.tup [x, y]) ∧ xs[i]? = some x ∧ ys[i]? = some y
  stop := fun i H => SqB k1 K H a xs ∧ SqB k2 K H b ys ∧ i = min xs.length ys.length
theorem turn_zipB {P : Program} {w : World} {K : PySem.W.Frag} {elts : List Expr} {kk : Nat} {tpos : Pos} {k1 k2 : Bool} {a b z TI TO i1 i2 : Addr} {xs ys : List V} (n1 : a ≠ i1) (n2 : b ≠ i2) (S : ZipSep2 z TI TO i1 i2 [i1, a] [i2, b]) :
    Turn P w K (.Tuple elts kk tpos) (ItzB K k1 k2 a b xs ys) [z, TI, TO, i1, i2] z
      (fun i h => IsZip h z TI TO .none ∧ IsTupOf2 h TI (.ref i1) (.ref i2) ∧ (∃ u v, IsTupOf2 h TO u v) ∧ itB k1 h i1 a i ∧ itB k2 h i2 b i) where
  mem := List.mem_cons_self
  obj := fun i h st c hc => by
    obtain ⟨hz, hTI, ⟨u, v, hTO⟩, h1, h2⟩ := st
    simp only [List.mem_cons, List.not_mem_nil, or_false] at hc
    rcases hc with q | q | q | q | q <;> rw [q]
    · exact ⟨_, hz, fun v q => nomatch q⟩
    · exact ⟨_, hTI, fun v q => nomatch q⟩
    · exact ⟨_, hTO, fun v q => nomatch q⟩
    · exact itB_obj h1
    · exact itB_obj h2
  keep := fun i h h' st k => by
    obtain ⟨hz, hTI, ⟨u, v, hTO⟩, h1, h2⟩ := st
    exact ⟨k z (by simp) _ hz, k TI (by simp) _ hTI, ⟨u, v, k TO (by simp) _ hTO⟩, itB_at h1 (k i1 (by simp)), itB_at h2 (k i2 (by simp))⟩
  item := fun X hP hw hK hc i pins s σ H E I hf st hg => by
    subst hP hw hK
    obtain ⟨hz, hTI, hTO, h1, h2⟩ := st
    obtain ⟨qa, qb, hi⟩ := hg
    obtain ⟨its, rv, p1⟩ := inv_sqB I qa
    obtain ⟨its2, rv2, p2⟩ := inv_sqB I qb
    have l1 := rv.length
    have l2 := rv2.length
    have hA : X.A.in1.handled = none := I.ok.hd hc
    have W := GoesN.zip2 (elts := elts) (x1 := kk) (pos := tpos) S (drawsB (P := X.prog) (w := X.w) (A := X.A.in1) hA k1 i1 a n1 its.toArray) (drawsB (P := X.prog) (w := X.w) (A := X.A.in1) hA k2 i2 b n2 its2.toArray)
    have lt : ∀ c ∈ [z, TI, TO, i1, i2], c < s.heap.objs.size := fun c hcm => by
      obtain ⟨u, v, hTO⟩ := hTO
      simp only [List.mem_cons, List.not_mem_nil, or_false] at hcm
      rcases hcm with q | q | q | q | q <;> rw [q]
      · exact Heap.lt_size hz
      · exact Heap.lt_size hTI
      · exact Heap.lt_size hTO
      · exact let ⟨_, e, _⟩ := itB_obj h1; Heap.lt_size e
      · exact let ⟨_, e, _⟩ := itB_obj h2; Heap.lt_size e
    refine wpAny_mono (W.goes i s (fun v s2 => ∃ x H', Inv X pins σ H' s2 ∧ RelV x v ∧ (ItzB X.K k1 k2 a b xs ys).yld i H x H' ∧ (IsZip s2.heap z TI TO .none ∧ IsTupOf2 s2.heap TI (.ref i1) (.ref i2) ∧ (∃ u v, IsTupOf2 s2.heap TO u v) ∧ itB k1 s2.heap i1 a (i + 1) ∧ itB k2 s2.heap i2 b (i + 1)) ∧ ∀ b ∈ [z, TI, TO, i1, i2], H' b = none)
      E (by simp only [List.size_toArray]; omega) ⟨hz, hTI, hTO, ⟨h1, p1⟩, h2, p2⟩ fun v h' tk hY st' hk _ => ?_) (fun r s1 ⟨v, e, q⟩ => ⟨v, e, q⟩) fun _ _ q => q
    obtain ⟨T, u1, u2, ev, hT, g1, g2, tup⟩ := hY
    subst ev
    have hx : i < xs.length := by omega
    have hy : i < ys.length := by omega
    obtain ⟨v1, e1, r1⟩ := rv.get (List.getElem?_eq_getElem hx)
    obtain ⟨v2, e2, r2⟩ := rv2.get (List.getElem?_eq_getElem hy)
    have c1 : v1 = u1 := Option.some.inj (e1.symm.trans (by simpa using g1))
    have c2 : v2 = u2 := Option.some.inj (e2.symm.trans (by simpa using g2))
    subst c1 c2
    obtain ⟨I', fr, nn⟩ := pair_turn (tk := tk) I hf lt (fun c o hb q => hk c o (fun z' => hb (by simp only [List.mem_cons, List.not_mem_nil, or_false] at z' ⊢; rcases z' with q | q | q | q <;> simp [q])) q) hT tup r1 r2
    obtain ⟨hz', hTI', hTO', ⟨h1', _⟩, h2', _⟩ := st'
    exact ⟨.ref T, _, I', rfl, ⟨T, _, _, rfl, fr, rfl, List.getElem?_eq_getElem hx, List.getElem?_eq_getElem hy⟩, ⟨hz', hTI', hTO', h1', h2'⟩, nn⟩
  done := fun X hP hw hK hc i pins s σ H E I hf st hg => by
    subst hP hw hK
    obtain ⟨hz, hTI, hTO, h1, h2⟩ := st
    obtain ⟨qa, qb, hi⟩ := hg
    obtain ⟨its, rv, p1⟩ := inv_sqB I qa
    obtain ⟨its2, rv2, p2⟩ := inv_sqB I qb
    have l1 := rv.length
    have l2 := rv2.length
    have hA : X.A.in1.handled = none := I.ok.hd hc
    have W := GoesN.zip2 (elts := elts) (x1 := kk) (pos := tpos) S (drawsB (P := X.prog) (w := X.w) (A := X.A.in1) hA k1 i1 a n1 its.toArray) (drawsB (P := X.prog) (w := X.w) (A := X.A.in1) hA k2 i2 b n2 its2.toArray)
    have ei : i = min its.toArray.size its2.toArray.size := by simp only [List.size_toArray]; omega
    subst ei
    exact W.stops s _ E ⟨hz, hTI, hTO, ⟨h1, p1⟩, h2, p2⟩ fun h' tk hk _ => I.turnedL (t' := tk) (ch := [z, TI, TO, i1, i2]) (fun c o hb q => hk c o (fun z' => hb (by simp only [List.mem_cons, List.not_mem_nil, or_false] at z' ⊢; rcases z' with q | q | q | q <;> simp [q])) q) hf
  self := fun A i s Q E st h => wpAny_pyIter_zip st.1 h
def iZipB (K : PySem.W.Frag) (ta : TA) : TI := fun σ H R => ta σ H fun vs H1 => ∃ k1 k2 a b xs ys, vs = [.ref a, .ref b] ∧ SqB k1 K H1 a xs ∧ SqB k2 K H1 b ys ∧ R (ItzB K k1 k2 a b xs ys) H1
theorem pi_zipB {X : Cx} {e e2 : Expr} {ta : TA} {p pos tpos : Pos} {elts : List Expr} {kk : Nat} (hg : Gl X "zip") (hm : X.mg "zip" = none) (ha : PA X [e, e2] ta)
    (hs : starEach [e, e2] X.env = (false, eval e X.env) :: starEach [e2] X.env := by rfl) (hpl : (backTo pos (starEach [e2] X.env)).any (·.1) = false := by rfl) :
    PI X (.Tuple elts kk tpos) (.Call (.Name "zip" p) [e, e2] [] pos) (iZipB X.K ta) := ⟨fun pins s σ H R I h => by
  refine Call_ (ld_blt I hg hm PyProof.Rows.boot_zip (PyProof.Rows.callWith_type1 (thn (ha.run pos pins s σ H _ I h) fun us s1 z => ?_) hs hpl))
  obtain ⟨vs, H1, I1, r1, k1, k2, a, b, xs, ys, ex, qa, qb, q⟩ := z
  subst ex
  obtain ⟨u1, u2, rfl, e1, e2⟩ := vals2 r1
  cases e1
  cases e2
  obtain ⟨its, _, p1⟩ := inv_sqB I1 qa
  obtain ⟨its2, _, p2⟩ := inv_sqB I1 qb
  have la := seqB_lt p1
  have lb := seqB_lt p2
  refine zip_begins2 (beginsB k1 a its.toArray) (beginsB k2 b its2.toArray) p1 p2 fun h' hz hTI hTO o1 o2 hsz hk => wpAny_pyIter_zip hz ?_
  refine ⟨_, [s1.heap.objs.size + 4, s1.heap.objs.size + 2, s1.heap.objs.size + 3, s1.heap.objs.size, s1.heap.objs.size + 1], _, _, H1, rfl, I1.kept (t' := s1.toks) hk,
    turn_zipB (k1 := k1) (k2 := k2) (Nat.ne_of_lt la) (Nat.ne_of_lt (Nat.lt_succ_of_lt lb)) (zip_sep2 (fp1 := [a]) (fp2 := [b]) (fun c hc => by rw [List.mem_singleton.mp hc]; exact la) fun c hc => by rw [List.mem_singleton.mp hc]; exact lb),
    ⟨hz, hTI, ⟨_, _, hTO⟩, itB_start o1, itB_start o2⟩, fun c hc => ?_, q⟩
  have le : s1.heap.objs.size ≤ c := by
    simp only [List.mem_cons, List.not_mem_nil, or_false] at hc
    rcases hc with z | z | z | z | z <;> rw [z] <;> first | exact Nat.le_refl _ | exact Nat.le_add_right _ _
  exact I1.fpOk le (I1.hok.fresh le)⟩
end Wk
-- R1
namespace Wk
open PySem PySem.Spec PyProof.Rows L2
open Sem (wp)

theorem meets_enum1 {v : Value} {o : Obj} {G : Heap → Prop} (B : Begins v o G) :
    Meets (Builtin.«enumerate.__new__» ⟨[.type "enumerate", v], []⟩) (fun _ R s => G s.heap ∧ R (.ok (.ret (.ref (s.heap.objs.size + 1))))
      { s with heap := (s.heap.push o).push { cls := .type "enumerate", data := .fields #[.none, .bool false, .ref s.heap.objs.size, rawInt 0, .none, .none] } }) :=
  .of_wp fun P w A R s hh => by
    obtain ⟨hp, g, d, tk, os⟩ := s
    obtain ⟨h1, h⟩ := hh
    have sub := sub_enumerate
    have sz : (hp.push o).objs.size = hp.objs.size + 1 := Heap.size_push ..
    have h : R (.ok (.ret (.ref (hp.push o).objs.size))) ⟨(hp.push o).push { cls := .type "enumerate", data := .fields #[.none, .bool false, .ref hp.objs.size, rawInt 0, .none, .none] }, g, d, tk, os⟩ := by
      rw [sz]; exact h
    have it : ∀ {A' : Around} {E Q : Value → Shared → Prop}, Q (.ref hp.objs.size) ⟨hp.push o, g, d, tk, os⟩ → wpAny (model P w) A' (pyIter v) Q E ⟨hp, g, d, tk, os⟩ := fun q => B.iter P w _ _ ⟨hp, g, d, tk, os⟩ _ h1 q
    wp_walk using it
    refine wpAny_stack_any fun st => wpAny_pure ?_
    split
    · rename_i c _ _ _ _ _
      cases (c == Value.type "enumerate") <;> (wp_walk using it; exact ⟨_, rfl, h⟩)
    · wp_walk using it
      exact ⟨_, rfl, h⟩
theorem enum_begins1 {P : Program} {w : World} {A : Around} {E : Value → Shared → Prop} {s : Shared} {v : Value} {o : Obj} {G : Heap → Prop} {Q : Value → Shared → Prop} (B : Begins v o G) (h1 : G s.heap)
    (h : ∀ h', IsEnum h' (s.heap.objs.size + 1) s.heap.objs.size 0 .none → h'.get? s.heap.objs.size = some o → (∀ b u, s.heap.get? b = some u → h'.get? b = some u) → Q (.ref (s.heap.objs.size + 1)) { s with heap := h' }) :
    wpAny (model P w) A (call (.type "enumerate") [v]) Q E s := by
  refine callType_new F.called_enumerate (by decide) (F.typeCall_enumerate_1 _) (F.newCall_enumerate_1 _) (fun obj => F.args_object_init_2 obj _) F.entry_enumerate_new (meets_enum1 B) ⟨h1, ?_⟩
  have sz : (s.heap.push o).objs.size = s.heap.objs.size + 1 := Heap.size_push ..
  have he := Heap.get?_push_size (s.heap.push o) (o := { cls := .type "enumerate", data := .fields #[.none, .bool false, .ref s.heap.objs.size, rawInt 0, .none, .none] }) rfl
  rw [sz] at he
  exact ⟨⟨_, he, rfl⟩, h _ he (Heap.get?_push_of_some _ (Heap.get?_push_size _ B.free)) fun b u x => Heap.get?_push_of_some _ (Heap.get?_push_of_some _ x)⟩
def IteB (K : PySem.W.Frag) (k : Bool) (a : Addr) (xs : List V) : It where
  go := fun i H => SqB k K H a xs ∧ i < xs.length
  yld := fun i H v H' => ∃ T x, v = .ref T ∧ H T = none ∧ H' = upd H T (.tup [.int (i : Nat), x]) ∧ xs[i]? = some x
  stop := fun i H => SqB k K H a xs ∧ i = xs.length
theorem turn_enumB {P : Program} {w : World} {K : PySem.W.Frag} {elts : List Expr} {kk : Nat} {tpos : Pos} {k : Bool} {a e it : Addr} {xs : List V} (n1 : a ≠ it) (n2 : e ≠ it) (n3 : e ≠ a) :
    Turn P w K (.Tuple elts kk tpos) (IteB K k a xs) [e, it] e (fun i h => (∃ old, IsEnum h e it (0 + (i : Int)) old) ∧ itB k h it a i) where
  mem := List.mem_cons_self
  obj := fun i h st c hc => by
    obtain ⟨⟨old, he⟩, h1⟩ := st
    simp only [List.mem_cons, List.not_mem_nil, or_false] at hc
    rcases hc with q | q <;> rw [q]
    · exact ⟨_, he, fun v q => nomatch q⟩
    · exact itB_obj h1
  keep := fun i h h' st kp => by
    obtain ⟨⟨old, he⟩, h1⟩ := st
    exact ⟨⟨old, kp e (by simp) _ he⟩, itB_at h1 (kp it (by simp))⟩
  item := fun X hP hw hK hc i pins s σ H E I hf st hg => by
    subst hP hw hK
    obtain ⟨he, h1⟩ := st
    obtain ⟨qa, hi⟩ := hg
    obtain ⟨its, rv, p1⟩ := inv_sqB I qa
    have l1 := rv.length
    have hA : X.A.in1.handled = none := I.ok.hd hc
    have W := GoesN.enumFrom (elts := elts) (x1 := kk) (pos := tpos) 0 (drawsB (P := X.prog) (w := X.w) (A := X.A.in1) hA k it a n1 its.toArray) e n2 (by simp [n2, n3]) (by simp)
    have lt : ∀ c ∈ [e, it], c < s.heap.objs.size := fun c hcm => by
      obtain ⟨old, he⟩ := he
      simp only [List.mem_cons, List.not_mem_nil, or_false] at hcm
      rcases hcm with q | q <;> rw [q]
      · exact Heap.lt_size he
      · exact let ⟨_, e, _⟩ := itB_obj h1; Heap.lt_size e
    refine wpAny_mono (W.goes i s (fun v s2 => ∃ x H', Inv X pins σ H' s2 ∧ RelV x v ∧ (IteB X.K k a xs).yld i H x H' ∧ ((∃ old, IsEnum s2.heap e it (0 + ((i + 1 : Nat) : Int)) old) ∧ itB k s2.heap it a (i + 1)) ∧ ∀ b ∈ [e, it], H' b = none)
      E (by simp only [List.size_toArray]; omega) ⟨he, h1, p1⟩ fun v h' tk hY st' hk _ => ?_) (fun r s1 ⟨v, e, q⟩ => ⟨v, e, q⟩) fun _ _ q => q
    obtain ⟨T, t, u2, ev, hT, g1, tup⟩ := hY
    subst ev
    have hx : i < xs.length := by omega
    obtain ⟨v1, e1, r1⟩ := rv.get (List.getElem?_eq_getElem hx)
    have c1 : v1 = u2 := Option.some.inj (e1.symm.trans (by simpa using g1))
    subst c1
    obtain ⟨I', fr, nn⟩ := pair_turn (x := .int (i : Nat)) (tk := tk) I hf lt hk hT tup ⟨t, by rw [Int.zero_add]⟩ r1
    obtain ⟨he', h1', _⟩ := st'
    exact ⟨.ref T, _, I', rfl, ⟨T, _, rfl, fr, rfl, List.getElem?_eq_getElem hx⟩, ⟨he', h1'⟩, nn⟩
  done := fun X hP hw hK hc i pins s σ H E I hf st hg => by
    subst hP hw hK
    obtain ⟨he, h1⟩ := st
    obtain ⟨qa, hi⟩ := hg
    obtain ⟨its, rv, p1⟩ := inv_sqB I qa
    have l1 := rv.length
    have hA : X.A.in1.handled = none := I.ok.hd hc
    have W := GoesN.enumFrom (elts := elts) (x1 := kk) (pos := tpos) 0 (drawsB (P := X.prog) (w := X.w) (A := X.A.in1) hA k it a n1 its.toArray) e n2 (by simp [n2, n3]) (by simp)
    have ei : i = its.toArray.size := by simp only [List.size_toArray]; omega
    subst ei
    exact W.stops s _ E ⟨he, h1, p1⟩ fun h' tk hk _ => I.turnedL (t' := tk) (ch := [e, it]) hk hf
  self := fun A i s Q E st h => let ⟨⟨_, he⟩, _⟩ := st; wpAny_pyIter_enum he h
def iEnumB (K : PySem.W.Frag) (ta : TA) : TI := fun σ H R => ta σ H fun vs H1 => ∃ k a xs, vs = [.ref a] ∧ SqB k K H1 a xs ∧ R (IteB K k a xs) H1
theorem pi_enumB {X : Cx} {e : Expr} {ta : TA} {p pos tpos : Pos} {elts : List Expr} {kk : Nat} (hg : Gl X "enumerate") (hm : X.mg "enumerate" = none) (ha : PA X [e] ta) (hs : starEach [e] X.env = [(false, eval e X.env)] := by rfl) :
    PI X (.Tuple elts kk tpos) (.Call (.Name "enumerate" p) [e] [] pos) (iEnumB X.K ta) := ⟨fun pins s σ H R I h => by
  refine Call_ (ld_blt I hg hm boot_enumerate (PyProof.Rows.callWith_type1 (thn (ha.run pos pins s σ H _ I h) fun us s1 z => ?_) hs rfl))
  obtain ⟨vs, H1, I1, r1, k, a, xs, ex, qa, q⟩ := z
  subst ex
  obtain ⟨u1, rfl, e1⟩ := vals1 r1
  cases e1
  obtain ⟨its, _, p1⟩ := inv_sqB I1 qa
  have la := seqB_lt p1
  refine enum_begins1 (beginsB k a its.toArray) p1 fun h' he o1 hk => wpAny_pyIter_enum he ?_
  refine ⟨_, [s1.heap.objs.size + 1, s1.heap.objs.size], _, _, H1, rfl, I1.kept (t' := s1.toks) hk,
    turn_enumB (k := k) (Nat.ne_of_lt la) (Nat.succ_ne_self _) (Nat.ne_of_gt (Nat.lt_succ_of_lt la)), ⟨⟨_, by simpa using he⟩, itB_start o1⟩, fun c hc => ?_, q⟩
  have le : s1.heap.objs.size ≤ c := by
    simp only [List.mem_cons, List.not_mem_nil, or_false] at hc
    rcases hc with z | z <;> rw [z] <;> first | exact Nat.le_refl _ | exact Nat.le_add_right _ _
  exact I1.fpOk le (I1.hok.fresh le)⟩
end Wk
-- R2
namespace Wk
open PySem PySem.Spec PyProof.Rows L2
open Sem (wp)

section
variable {X : Cx} {pins : List (Addr × Obj)} {σ : L2.St} {H : Hp} {s : Shared} {d : Addr} {o : Obj}
theorem frz_items {kvs : List (List Key × V)} (I : Inv X pins σ H s) (h : H d = some (.frz o (.dT kvs))) : (d == sysModules) = false ∧ ∃ (es : Array DictEntry) (ep : Nat), o.data = .dict es ep ∧ s.heap.DictRaw d es ep ∧ es.size = kvs.length ∧
    ∀ (i : Nat) (k : List Key) (v : V), kvs[i]? = some (k, v) → ∃ (en : DictEntry) (q : Addr), es[i]? = some en ∧ en.key = .ref q ∧ H q = some (.tup (k.map kV)) ∧ RelV v en.val := by
  obtain ⟨hd, _, hs, xs, pr, o', es, ep, ho, hx, hdt, he, _⟩ := I.hok d _ h
  have eo : o = o' := Option.some.inj (hd.symm.trans ho)
  subst eo
  have l1 : es.size = xs.length := size_of_entries he
  have l2 : kvs.length = xs.length := Paired.length pr
  refine ⟨hs, es, ep, hdt, ⟨o, hd, hx, hdt⟩, by omega, fun i k v e => ?_⟩
  obtain ⟨b, hb, _, e2, e3⟩ := paired_get pr e
  have q := entry_at he i
  rw [hb] at q
  exact ⟨_, b.2.1, q, rfl, e2, e3⟩
end
def ItiT (d : Addr) (o : Obj) (kvs : List (List Key × V)) : It where
  go := fun i H => H d = some (.frz o (.dT kvs)) ∧ i < kvs.length
  yld := fun i H x H' => ∃ T q k v, kvs[i]? = some (k, v) ∧ H q = some (.tup (k.map kV)) ∧ x = .ref T ∧ H T = none ∧ H' = upd H T (.tup [.ref q, v])
  stop := fun i H => H d = some (.frz o (.dT kvs)) ∧ i = kvs.length
theorem turn_itemsT {P : Program} {w : World} {K : PySem.W.Frag} {elts : List Expr} {kk : Nat} {tpos : Pos} {d it : Addr} {o : Obj} {es : Array DictEntry} {ep : Nat} {kvs : List (List Key × V)} (ne : d ≠ it) (hod : o.data = .dict es ep) :
    Turn P w K (.Tuple elts kk tpos) (ItiT d o kvs) [it] it (fun i h => ∃ ok ov, IsItemIter h it d i es.size ep ok ov) where
  mem := List.mem_cons_self
  obj := fun i h st c hc => by
    obtain ⟨ok, ov, e⟩ := st
    rw [List.mem_singleton.mp hc]
    exact ⟨_, e, fun v z => nomatch z⟩
  keep := fun i h h' st kp => let ⟨ok, ov, e⟩ := st; ⟨ok, ov, kp it List.mem_cons_self _ e⟩
  item := fun X hP hw hK hc i pins s σ H E I hf st hg => by
    subst hP hw hK
    obtain ⟨hd, hi⟩ := hg
    obtain ⟨hs, es', ep', hdt, raw, hsz, ent⟩ := frz_items I hd
    rw [hod] at hdt
    cases hdt
    have lt : ∀ c ∈ [it], c < s.heap.objs.size := fun c hcm => by
      obtain ⟨ok, ov, e⟩ := st
      rw [List.mem_singleton.mp hcm]
      exact Heap.lt_size e
    have W := GoesN.rawItems (prog := X.prog) (w := X.w) (A := X.A) (elts := elts) (x1 := kk) (pos := tpos) (I.ok.hd hc) it d ne es ep
    refine wpAny_mono (W.goes i s (fun v s2 => ∃ x H', Inv X pins σ H' s2 ∧ RelV x v ∧ (ItiT d o kvs).yld i H x H' ∧ (∃ ok ov, IsItemIter s2.heap it d (i + 1) es.size ep ok ov) ∧ ∀ b ∈ [it], H' b = none) E (by omega) ⟨st, raw⟩ fun v h' tk hY st' hk _ => ?_) (fun r s1 ⟨v, e, q⟩ => ⟨v, e, q⟩) fun _ _ q => q
    obtain ⟨T, hi2, ev, hT, tup⟩ := hY
    subst ev
    obtain ⟨en, q, e1, e2, e3, e4⟩ := ent i _ _ (List.getElem?_eq_getElem hi)
    have c1 : es[i] = en := Option.some.inj ((by simp [hi2] : some es[i] = es[i]?).trans e1)
    rw [c1] at tup
    obtain ⟨I', fr, nn⟩ := pair_turn (x := .ref q) (tk := tk) I hf lt hk hT tup e2 e4
    exact ⟨.ref T, _, I', rfl, ⟨T, q, _, _, List.getElem?_eq_getElem hi, e3, rfl, fr, rfl⟩, st'.1, nn⟩
  done := fun X hP hw hK hc i pins s σ H E I hf st hg => by
    subst hP hw hK
    obtain ⟨hd, hi⟩ := hg
    obtain ⟨hs, es', ep', hdt, raw, hsz, ent⟩ := frz_items I hd
    rw [hod] at hdt
    cases hdt
    have W := GoesN.rawItems (prog := X.prog) (w := X.w) (A := X.A) (elts := elts) (x1 := kk) (pos := tpos) (I.ok.hd hc) it d ne es ep
    have ei : i = es.size := by omega
    subst ei
    exact W.stops s _ E ⟨st, raw⟩ fun h' tk hk _ => I.turnedL (t' := tk) (ch := [it]) hk hf
  self := fun A i s Q E st h => let ⟨_, _, e⟩ := st; PySem.W.kcp_self e h
def iItemsT (td : TE) : TI := fun σ H R => td σ H fun x H1 => ∃ d o kvs, x = .ref d ∧ H1 d = some (.frz o (.dT kvs)) ∧ R (ItiT d o kvs) H1
theorem pi_itemsT {X : Cx} {e : Expr} {td : TE} {apos cpos tpos : Pos} {elts : List Expr} {kk : Nat} (he : PE X e td) (hb : attributeBase e "items" X.env (eval e X.env) = eval e X.env := by rfl) (hl : (apos.endLine == cpos.line) = true := by rfl) :
    PI X (.Tuple elts kk tpos) (.Call (.Attribute e "items" apos) [] [] cpos) (iItemsT td) := ⟨fun pins s σ H R I h => by
  refine wpAny_Call_method (id := "dict.items") (T := "dict") hb rfl hl PySem.F.plainAttrs_dict PySem.F.slot_dict_items PySem.F.type_dict_items (thn (he.run pins s σ H _ I h) fun u s1 z => ?_)
  obtain ⟨x, H1, I1, rx, d, o, kvs, ex, hd, q⟩ := z
  subst ex
  obtain rfl : u = Value.ref d := rx
  obtain ⟨hs, es, ep, hdt, raw, hsz, ent⟩ := frz_items I1 hd
  obtain ⟨o1, ho1, hx1, hd1⟩ := id raw
  refine ⟨raw.typeIs, fun a ea => (by cases ea; exact ⟨o1, ho1, hx1.2.1⟩), ?_⟩
  have I2 : Inv X pins σ H1 { s1 with heap := s1.heap.push { cls := .type "dict_items", data := .fields #[.ref d] } } := I1.kept (t' := s1.toks) fun b u z => Heap.get?_push_of_some _ z
  have raw2 : (s1.heap.push { cls := .type "dict_items", data := .fields #[.ref d] }).DictRaw d es ep := raw.at fun o z => Heap.get?_push_of_some _ z
  have sz : (s1.heap.push { cls := .type "dict_items", data := .fields #[.ref d] }).objs.size = s1.heap.objs.size + 1 := Heap.size_push ..
  have ld : d < s1.heap.objs.size := Heap.lt_size ho1
  have fin : wpAny (model X.prog X.w) X.A (pyIter (.ref s1.heap.objs.size)) (PIE X pins σ (.Tuple elts kk tpos) R) X.xe { s1 with heap := s1.heap.push { cls := .type "dict_items", data := .fields #[.ref d] } } :=
    wpAny_pyIter_items_raw (es := es) (ep := ep) ⟨_, Heap.get?_push_size _ rfl, rfl, rfl⟩ raw2
      (pi_one (tk := s1.toks) I2 _ (turn_itemsT (by rw [sz]; exact Nat.ne_of_lt (Nat.lt_succ_of_lt ld)) hdt) ⟨.none, .none, Heap.get?_push_size _ rfl⟩ q)
  show wpAny _ _ (callWith cpos (.builtin "dict.items") [.ref d] [] []) _ X.xe s1
  exact method_meetsIn PySem.F.slot_dict_items PySem.F.entry_dict_items rfl (PySem.evalArgs_none ⟨rfl, raw.typeIs, PySem.F.args_dict_items_1 _, _, DT.meetsItems (es := es) (ep := ep) hs, ⟨raw, fin⟩⟩)⟩
def tDisp1 (tk tv : TE) : TE := fun σ H Q => ∀ p, H p = none → tk σ (upd H p (.dT [])) fun y H1 => tv σ H1 fun v H2 => ∃ (b : Addr) (k : List Key) (z : V), [(y, v)] = [(V.ref b, z)] ∧ H2 b = some (.tup (k.map kV)) ∧ H2 p = some (.dT []) ∧ Q (.ref p) (upd H2 p (.dT [(k, z)]))
theorem pe_disp1 {X : Cx} {ke ve : Expr} {pos : Pos} {tk tv : TE} (hu : X.A.units < cLine) (hk : PE X ke tk) (hv : PE X ve tv) : PE X (.Dict [some ke] [ve] pos) (tDisp1 tk tv) := ⟨fun pins s σ H Q I q => by
  have fr := I.hok.fresh (Nat.le_refl s.heap.objs.size)
  have I1 := I.laid (a := s.heap.objs.size) (o := .dT []) (h' := s.heap.push { cls := .type "dict", data := .dict #[] }) (t' := s.toks) (fun _ _ z => Heap.get?_push_of_some _ z) (Nat.le_refl _) (dt_empty s.heap I.big)
  have pr : PPs X pos [some ke] [ve] [(tk, tv)] := pps_cons hk hv pps_nil
  have len : (pairTrees [some ke] [ve] X.env pos).length ≤ 15 := by show 1 ≤ 15; decide
  rw [arm_eval_Dict, zip_pairTrees [some ke] [ve] X.env pos rfl rfl, dictDisplay_pairs (pairTrees [some ke] [ve] X.env pos) (fun z => by cases z) (by omega)]
  refine wpAny_bind (wpAny_standAt (wpAny_bind (wpAny_subDictH (knd := tupleKind (mixKind X.prog X.w)) hu len ?_)))
  refine thn (pr.run pins _ σ _ (fun ps H2 => ∃ (b : Addr) (k : List Key) (z : V), ps = [(V.ref b, z)] ∧ H2 b = some (.tup (k.map kV)) ∧ H2 s.heap.objs.size = some (.dT []) ∧ Q (.ref s.heap.objs.size) (upd H2 s.heap.objs.size (.dT [(k, z)]))) I1 (q _ fr)) fun ws s2 z => ?_
  obtain ⟨ps, H2, I2, rel, b, k, v, ep, eb, e, q2⟩ := z
  subst ep
  cases rel with
  | @cons _ w1 _ _ r rr =>
    cases rr
    obtain ⟨wk, wv⟩ := w1
    have ek : wk = Value.ref b := r.1
    subst ek
    obtain ⟨_, hd, xs0, r0, dd⟩ := dt_of I2.hok e
    cases r0
    refine ⟨[(k, b, wv)], ⟨rfl, rfl, key_of I2.hok eb, trivial⟩, dd, fun h' tk' kd hs => wpAny_pure ⟨.ref s.heap.objs.size, _, ?_, rfl, q2⟩⟩
    obtain ⟨q, es, ep, hq, h2, h3, h4, h5, h6⟩ := kd
    refine d_write I2 (by rw [e]; exact True.intro) hs ⟨q, hq⟩ ⟨(show 1 ≤ sizeLine by decide), hd, [(k, b, wv)], .cons ⟨rfl, ?_, r.2⟩ .nil, q, es, ep, hq, h2, h3, h4, h6⟩
    rw [upd_ne (ne_of eb e (fun z => nomatch z))]
    exact eb⟩

theorem dT_set {X : Cx} {pins : List (Addr × Obj)} {σ : L2.St} {H : Hp} {s : Shared} {A : Around} {E : Value → Shared → Prop} {D b : Addr} {kvs : List (List Key × V)} {k : List Key} {v : V} {r : Value} {Q : Unit → Shared → Prop} (hu : A.units < cLine) (I : Inv X pins σ H s)
    (e : H D = some (.dT kvs)) (l : kvs.length < sizeLine) (eb : H b = some (.tup (k.map kV))) (rv : RelV v r) (h : ∀ s', Inv X pins σ (upd H D (.dT (putK kvs k v))) s' → Q () s') : wpAny (model X.prog X.w) A (dictSet D (.ref b) r) Q E s := by
  obtain ⟨z, hd, xs, rel, dd⟩ := dt_of I.hok e
  have hz : xs.length ≤ sizeLine := by rw [← Paired.length rel]; exact z
  refine wpAny_dictSet_heap (hsz := hz) (knd := tupleKind (mixKind X.prog X.w)) hu (key_of I.hok eb) dd fun h' kd hs => h _ ?_
  obtain ⟨q, es, ep, hq, h2, h3, h4, _, h6⟩ := kd
  refine d_write I (by rw [e]; exact True.intro) hs ⟨q, hq⟩ ⟨Nat.le_trans (length_putK kvs k v) l, hd, _, (rel.put k eb rv).keeps fun c ys ec => ?_, q, es, ep, hq, h2, h3, h4, h6⟩
  rw [upd_ne (ne_of ec e (fun z => nomatch z))]
  exact ec
end Wk
-- R3
namespace Wk
open PySem PySem.Spec PyProof.Rows L2
section
variable {X : Cx}
/-- D: the new dict; as tLc, tDc, the keys tuples -/
def tDcT (wi : TI) (g : TG) (tt : TT) (tk tv : TE) (vs : List Nat) : TE := fun σ H Q => wi σ H fun J H1 => ∀ D, H1 D = none → ∃ W : Nat → Nat → Hp → Prop, (∃ m, W 0 m (upd H1 D (.dT []))) ∧ ∀ i m H, W i m H →
  (J.stop i H ∧ Q (.ref D) H) ∨ (J.go i H ∧ ∃ Nx : Hp → Prop, (∀ H', Nx H' → ∃ m', m' < m ∧ W (i + 1) m' H') ∧ ∀ x H', J.yld i H x H' → g x (wipe σ vs) H' fun σ2 H2 => wipe σ2 vs = wipe σ vs ∧ tt σ2 H2 fun b H3 =>
    if b = true then tk σ2 H3 fun y H4 => tv σ2 H4 fun z H5 => ∃ (kvs : List (List Key × V)) (k : List Key) (q : Addr), y = .ref q ∧ H5 q = some (.tup (k.map kV)) ∧ H5 D = some (.dT kvs) ∧ kvs.length < sizeLine ∧ Nx (upd H5 D (.dT (putK kvs k z))) else Nx H3)
/-- what holds of each block of the comprehension -/
abbrev Blk (X : Cx) (scope : Scope) (φ : Cx → Prop) : Prop := ∀ (s : Shared) (H : Hp) (C : Addr) (cl : List (Str × Addr)) (fp : List Addr), φ (X.blk s H scope (compEnvC scope cl C X.env) fp)
variable {kx vx tg iter : Expr} {ifs : List Expr} {scope : Scope} {own : List (Str × Nat)} {pos : Pos} {wi : TI} {g : TG} {tt : TT} {tk tv : TE}
/-- the loop within the block ce that stands over s3 -/
theorem dcT_loop {σ : L2.St} {Q : VK} {s3 s4 : Shared} {H3 : Hp} {ce : Env} {fp : List Addr} {it D : Addr} {tn : Nat → Heap → Prop} {J : It} {W : Nat → Nat → Hp → Prop} {m0 : Nat} {R : Result → Shared → Prop}
    (hc : X.calm = true) (hu : X.A.units < cLine) (pg : PG (X.blk s3 H3 scope ce fp) tg g) (pt : PTs (X.blk s3 H3 scope ce fp) ifs tt) (pk : PE (X.blk s3 H3 scope ce fp) kx tk) (pe : PE (X.blk s3 H3 scope ce fp) vx tv)
    (T : Turn X.prog X.w X.K tg J fp it tn) (I4 : Inv (X.blk s3 H3 scope ce fp) [] (wipe σ (own.map (·.2))) H3 s4) (st4 : tn 0 s4.heap) (n3 : ∀ b ∈ fp, H3 b = none) (w0 : W 0 m0 H3)
    (turn : ∀ i m H, W i m H → (J.stop i H ∧ Q (.ref D) H) ∨ (J.go i H ∧ ∃ Nx : Hp → Prop, (∀ H', Nx H' → ∃ m', m' < m ∧ W (i + 1) m' H') ∧ ∀ x H', J.yld i H x H' → g x (wipe σ (own.map (·.2))) H' fun σ2 H2 => wipe σ2 (own.map (·.2)) = wipe σ (own.map (·.2)) ∧ tt σ2 H2 fun b H3 =>
      if b = true then tk σ2 H3 fun y H4 => tv σ2 H4 fun z H5 => ∃ (kvs : List (List Key × V)) (k : List Key) (q : Addr), y = .ref q ∧ H5 q = some (.tup (k.map kV)) ∧ H5 D = some (.dT kvs) ∧ kvs.length < sizeLine ∧ Nx (upd H5 D (.dT (putK kvs k z))) else Nx H3))
    (out : ∀ s' H', Inv (X.blk s3 H3 scope ce fp) [] (wipe σ (own.map (·.2))) H' s' → Q (.ref D) H' → R (.ok .next) s') :
    codeAny (model X.prog X.w) X.A (.compLoop (.DictComp kx vx [⟨tg, iter, ifs, 0⟩] scope pos) 0 (.ref it) (.ref D) ce) R s4 := by
  have fok : ∀ {σ' : L2.St} {H' : Hp} {s' : Shared}, Inv (X.blk s3 H3 scope ce fp) [] σ' H' s' → (∀ b ∈ fp, H' b = none) → ∀ b ∈ fp, FpOk (X.blk s3 H3 scope ce fp) [] H' b := fun {σ' H' s'} I' nn b hb =>
    ⟨nn b hb, (I'.ok.exf b hb).1, I'.ok.exfs b hb, .inl hb, fun x c z => (I'.ok.exf b hb).2 x c z, fun p hp => absurd (show p ∈ ([] : List (Addr × Obj)) from hp) List.not_mem_nil⟩
  refine compLoop_anyD (fun n s' => ∃ i H', Inv (X.blk s3 H3 scope ce fp) [] (wipe σ (own.map (·.2))) H' s' ∧ tn i s'.heap ∧ (∀ b ∈ fp, H' b = none) ∧ W i n H') (fun n s5 z => ?_) m0 ⟨0, H3, I4, st4, n3, w0⟩
  obtain ⟨i, H5, I5, st5, n5, w5⟩ := z
  rcases turn i n H5 w5 with ⟨stop, qq⟩ | ⟨go, Nx, hNx, step⟩
  · refine thnF (T.done (X.blk s3 H3 scope ce fp) rfl rfl rfl hc i [] s5 _ H5 (fun _ _ => False) I5 (fok I5 n5) st5 stop) fun r s6 z => ?_
    obtain ⟨hr, I6⟩ := z
    subst hr
    exact out s6 H5 I6 qq
  · refine thnF (T.item (X.blk s3 H3 scope ce fp) rfl rfl rfl hc i [] s5 _ H5 (fun _ _ => False) I5 (fok I5 n5) st5 go) fun r s6 z => ?_
    obtain ⟨u, hr, h6⟩ := z
    subst hr
    refine thnF h6 fun _ s7 z => ?_
    obtain ⟨x, H7, I7, r7, y7, st7, n7⟩ := z
    have I7' := I7.pinned (fok I7 n7) (T.obj _ _ st7)
    refine thnF (pg.run _ s7 _ H7 x u _ I7' r7 (step x H7 y7)) fun _ s8 z => ?_
    obtain ⟨σ8, H8, I8, hw8, q8⟩ := z
    refine thnF (pt.run _ s8 σ8 H8 _ I8 q8) fun b s9 z => ?_
    obtain ⟨H9, I9, q9⟩ := z
    have again : ∀ {s' : Shared} {H' : Hp}, Inv (X.blk s3 H3 scope ce fp) ([] ++ pinsAt fp s7.heap) σ8 H' s' → Nx H' → ∃ m, m < n ∧ ∃ i H', Inv (X.blk s3 H3 scope ce fp) [] (wipe σ (own.map (·.2))) H' s' ∧ tn i s'.heap ∧ (∀ b ∈ fp, H' b = none) ∧ W i m H' := fun {s' H'} I' nx => by
      obtain ⟨m', hm, w'⟩ := hNx H' nx
      have pin : ∀ c ∈ fp, ∀ ob, s7.heap.get? c = some ob → s'.heap.get? c = some ob ∧ H' c = none := fun c hb ob z =>
        ⟨(I'.pin (c, ob) (List.mem_append_right _ (List.mem_append_right _ (mem_pinsAt hb z)))).1, (I'.pin (c, ob) (List.mem_append_right _ (List.mem_append_right _ (mem_pinsAt hb z)))).2.1⟩
      refine ⟨m', hm, i + 1, H', (I'.unpinned (pins := [])).weak (by rw [← hw8, wipe_length]) (fun j v z => (wipe_some (by rw [hw8]; exact z)).1), T.keep _ _ _ st7 fun c hb ob z => (pin c hb ob z).1, fun c hb => ?_, w'⟩
      obtain ⟨ob, z, _⟩ := T.obj _ _ st7 c hb
      exact (pin c hb ob z).2
    cases b with
    | false => exact again I9 (by simpa only [Bool.false_eq_true, if_false] using q9)
    | true =>
      simp only [if_true] at q9 ⊢
      refine thnF (pk.run _ s9 σ8 H9 _ I9 q9) fun uk s10 z => ?_
      obtain ⟨yk, H10, I10, r10, q10⟩ := z
      refine thnF (pe.run _ s10 σ8 H10 _ I10 q10) fun uv s11 z => ?_
      obtain ⟨yv, H11, I11, r11, kvs, k, q, ek, eq, hD, hz, nx⟩ := z
      subst ek
      obtain rfl : uk = Value.ref q := r10
      exact dT_set (X := X.blk s3 H3 scope ce fp) hu I11 hD hz eq r11 fun s12 I12 => again I12 nx
theorem pe_dcT (hc : X.calm = true) (hu : X.A.units < cLine) (hN : X.N.Nodup) (hi : PI X tg iter wi) (ok : BlkOk X.N X.env.scope scope own)
    (hg : Blk X scope fun Y => PG Y tg g) (ht : Blk X scope fun Y => PTs Y ifs tt) (hk : Blk X scope fun Y => PE Y kx tk) (hv : Blk X scope fun Y => PE Y vx tv) (hs : ∀ x, foldedSetIterable iter X.env x = pure x := by intro _; rfl) :
    PE X (.DictComp kx vx [⟨tg, iter, ifs, 0⟩] scope pos) (tDcT wi g tt tk tv (own.map (·.2))) := ⟨fun pins s σ H Q I h => by
  rw [arm_eval_DictComp]
  have free : ∀ y ∈ scope.names, y.2 = .free → ∃ c, X.env.cells.lookup y.1 = some c := fun y hy e => (ok.free y hy e).elim (fun z => I.ok.has _ (.inl z)) fun z => I.ok.has _ (.inr z)
  refine wpAny_comprehension_free (use := none) rfl hs (closure_ok free) ok.kind (fun y hy e => by rw [ok.uniq y hy, e]) (thn (hi.run pins s σ H _ I h) fun xv s1 hx => thn hx fun itv s2 z => ?_)
  obtain ⟨it, fp, tn, J, H2, e, I2, T, st2, f2, q⟩ := z
  subst e
  refine wpAny_newObj_type (newEnv_comp ?_)
  have fr : H2 s2.heap.objs.size = none := I2.hok.fresh (Nat.le_refl _)
  obtain ⟨W, ⟨m0, w0⟩, turn⟩ := q _ fr
  have I3 : Inv X pins σ (upd H2 s2.heap.objs.size (.dT [])) { s2 with heap := s2.heap.push { cls := .type "dict", data := .dict #[] } } := I2.laid (t' := s2.toks) (fun b o z => Heap.get?_push_of_some _ z) (Nat.le_refl _) (dt_empty s2.heap I2.big)
  have lt : ∀ b ∈ fp, b < s2.heap.objs.size := fun b hb => let ⟨_, z, _⟩ := T.obj _ _ st2 b hb; Heap.lt_size z
  generalize hs3 : ({ s2 with heap := s2.heap.push { cls := .type "dict", data := .dict #[] } } : Shared) = s3 at I3
  have h3 : s3.heap = s2.heap.push { cls := .type "dict", data := .dict #[] } := by rw [← hs3]
  have f3 : ∀ b ∈ fp, FpOk X pins (upd H2 s2.heap.objs.size (.dT [])) b ∧ b < s3.heap.objs.size := fun b hb =>
    ⟨⟨by rw [upd_ne (Nat.ne_of_lt (lt b hb))]; exact (f2 b hb).1, (f2 b hb).2⟩, by rw [h3, Heap.size_push]; exact Nat.lt_succ_of_lt (lt b hb)⟩
  have st3 : tn 0 s3.heap := T.keep _ _ _ st2 fun b _ o z => by rw [h3]; exact Heap.get?_push_of_some _ z
  have I4 := block_start I3 ok hN f3
  have pg := hg s3 (upd H2 s2.heap.objs.size (.dT [])) s3.heap.objs.size (cellsFrom (s3.heap.objs.size + 1) scope.names (cloFrom X.env.cells scope.names [])) fp
  have pt := ht s3 (upd H2 s2.heap.objs.size (.dT [])) s3.heap.objs.size (cellsFrom (s3.heap.objs.size + 1) scope.names (cloFrom X.env.cells scope.names [])) fp
  have pk := hk s3 (upd H2 s2.heap.objs.size (.dT [])) s3.heap.objs.size (cellsFrom (s3.heap.objs.size + 1) scope.names (cloFrom X.env.cells scope.names [])) fp
  have pe := hv s3 (upd H2 s2.heap.objs.size (.dT [])) s3.heap.objs.size (cellsFrom (s3.heap.objs.size + 1) scope.names (cloFrom X.env.cells scope.names [])) fp
  have cL : (compEnvC scope (cellsFrom (s3.heap.objs.size + 1) scope.names (cloFrom X.env.cells scope.names [])) s3.heap.objs.size X.env).locals = s3.heap.objs.size := rfl
  have loop := dcT_loop (R := compPost (model X.prog X.w) X.A X.xe none (EP X pins σ Q) (.ref s2.heap.objs.size) s3.heap.objs.size) (iter := iter) (pos := pos) hc hu pg pt pk pe T I4
    (T.keep _ _ _ st3 fun b _ o z => pushCells_keeps _ _ _ _ (Heap.get?_push_of_some _ z)) (fun b hb => (f3 b hb).1.1) w0 turn fun s' H' I' qq => ?_
  · rw [h3] at loop ⊢
    exact codeAny_compStart_dict loop (T.self X.A 0 _ _ _ (T.keep _ _ _ st3 fun b _ o z => by rw [← h3]; exact pushCells_keeps _ _ _ _ (Heap.get?_push_of_some _ z)) loop)
  · have I7 : Inv X pins σ H' s' := I3.call' (ch := fp) I'.os I'.base I'.hok I'.bare fun b hb => ⟨(f3 b hb).1.2.2.2.1, (f3 b hb).1.2.1, (f3 b hb).1.2.2.2.2.1, (f3 b hb).1.2.2.2.2.2⟩
    have nC : H' s3.heap.objs.size = none := I'.free
    obtain ⟨m, hn, _⟩ := I'.loc
    refine ⟨m, hn, fun h'' sb => ?_⟩
    obtain ⟨f0, f1, f2, f3, f4, f5⟩ := I3.fpOk (Nat.le_refl s3.heap.objs.size) nC
    exact ⟨.ref s2.heap.objs.size, H', I7.turned (t' := s'.toks) (fun b o hb z => (sb.2 b hb).trans z) f0 f1 f3 f4 f5, rfl, qq⟩⟩
end
end Wk
-- R4
namespace Wk
open PySem PySem.Spec PyProof.Rows L2 Evl

/-- a def that may be called by its name -/
structure Cal (P : Program) (w : World) (K : PySem.W.Frag) (mg : Str → Option Value) (base : Heap) (k : Nat) (x : Str) (sp : Sp) : Prop where
  ex : ∃ (f : Addr) (fd : FuncData) (ps : List Str), FnOk P w K mg base CX0 k f fd ps sp ∧ mg x = some (.ref f) ∧ PySem.W.keepIn K (.ref f) = true ∧ Binds K fd ps []
section
variable {X : Cx} {k j : Nat} {x : Str} {sp : Sp} {p pos : Pos} {e : Expr} {es : List Expr} {t : TA}
theorem pe_cal (c : Cal X.prog X.w X.K X.mg X.base k x sp) (hr : Room j X.A) (hk : k ≤ j) (hg : Gl X x) (ha : PA X (e :: es) t) (hdb : (x == ("__debug__" : Str)) = false := by decide)
    (he : starEach (e :: es) X.env = (false, eval e X.env) :: starEach es X.env := by rfl) (hpl : (backTo pos (starEach es X.env)).any (·.1) = false := by rfl) : PE X (.Call (.Name x p) (e :: es) [] pos) (tCall sp [] E0 t) := by
  obtain ⟨f, fd, ps, F, hm, kp, b⟩ := c.ex
  exact pe_call F (hr.mono hk) hg hm kp b .nil pass0 ha hdb he hpl
end

section
variable {X : Cx} {pins : List (Addr × Obj)} {σ : L2.St} {H : Hp} {s : Shared}
/-- a def called from within two built-ins -/
theorem run_in2 {k j : Nat} {f : Addr} {fd : FuncData} {ps : List Str} {sp : Sp} {us : List Value} {vs : List V} {Q : VK} {E : Value → Shared → Prop} (F : FnOk X.prog X.w X.K X.mg X.base CX0 k f fd ps sp) (b : Binds X.K fd ps []) (hr : Room j X.A) (hk : k + 2 ≤ j)
    (I : Inv X pins σ H s) (r : Vals vs us) (h : sp vs H Q E0) : wpAny (model X.prog X.w) X.A.in1.in1 (call (.ref f) us) (EP X pins σ Q) E s := by
  have r2 : Room k X.A.in1.in1 := ((hr.mono hk : Room (k + 2) X.A).in1 : Room (k + 1) X.A.in1).in1
  have hl : us.length = ps.length := by rw [← r.length]; exact F.len _ _ _ _ h
  have b2 := b s us I.kIn (by rw [List.append_nil]; exact hl)
  rw [List.append_nil] at b2
  refine wpAny_call (codeAny_mono (F.run X.A.in1.in1 X.stack s H ⟨us, []⟩ us vs Q E0 r2 I.env0.in1.in1 b2 r h) fun r s' hq => ?_)
  cases r with
  | error e => exact False.elim hq
  | ok fl =>
    cases fl with
    | ret u => exact I.after hq
    | next => exact False.elim hq
    | brk => exact False.elim hq
    | cont => exact False.elim hq
theorem pin_add {a : Addr} {o : Obj} (I : Inv X pins σ H s) (e : s.heap.get? a = some o) (f : FpOk X pins H a) (nc : ∀ v, o.data ≠ .cell v) : Inv X ((a, o) :: pins) σ H s := I.pins_of fun p hp => by
  rcases List.mem_cons.mp hp with q | q
  · rw [q]; exact ⟨e, f.1, f.2.1, f.2.2.1, nc⟩
  · exact I.pin p (List.mem_append_right _ q)
theorem pin_drop {q : Addr × Obj} (I : Inv X (q :: pins) σ H s) : Inv X pins σ H s := I.pins_of fun p hp => I.pin p (List.mem_append_right _ (List.mem_cons_of_mem _ hp))
/-- a record of ours is written -/
theorem rec_upd {a : Addr} {h' : Heap} {tk : Nat} (I : Inv X pins σ H s) (f : FpOk X pins H a) (sb : Heap.SameBut a s.heap h') : Inv X pins σ H { s with heap := h', toks := tk } :=
  I.turned (fun b o hb z => (sb.2 b hb).trans z) f.1 f.2.1 f.2.2.2.1 f.2.2.2.2.1 f.2.2.2.2.2
end

def keyO : Obj := seqObj "list" #[] 0
theorem nocell (xs : Array Value) (n : Nat) : ∀ v, (seqObj "list" xs n).data ≠ .cell v := fun v z => by cases z
/-- the ints ks, the things xs along: ordered by the ints -/
def KeyOut (ks : List Int) (xs out : List V) : Prop := ∃ ps : List (Int × V), ps.Perm (ks.zip xs) ∧ out = ps.map Prod.snd ∧ ps.Pairwise fun p q => p.1 ≤ q.1
section
variable {X : Cx} {pins : List (Addr × Obj)} {σ : L2.St} {H : Hp} {s : Shared}
theorem zip_paired {xs : List V} {us : List Value} (r : Vals xs us) : ∀ (ks : List Int), Paired (fun (p : Int × V) (q : Int × Value) => p.1 = q.1 ∧ RelV p.2 q.2) (ks.zip xs) (ks.zip us) := by
  induction r with
  | nil => intro ks; rw [List.zip_nil_right, List.zip_nil_right]; exact .nil
  | cons h t ih =>
    intro ks
    cases ks with
    | nil => exact .nil
    | cons k ks => exact .cons ⟨rfl, h⟩ (ih ks)
theorem perm_paired {α β : Type} {F : α → β → Prop} {l₂ l₃ : List β} (p : l₂.Perm l₃) : ∀ {l₁ : List α}, Paired F l₁ l₃ → ∃ l, l.Perm l₁ ∧ Paired F l l₂ := by
  induction p with
  | nil => intro l₁ h; cases h; exact ⟨[], .nil, .nil⟩
  | cons x _ ih =>
    intro l₁ h
    cases h with
    | cons a t =>
      obtain ⟨l, q, r⟩ := ih t
      exact ⟨_ :: l, q.cons _, .cons a r⟩
  | swap x y _ =>
    intro l₁ h
    cases h with
    | cons a t =>
      cases t with
      | cons b t => exact ⟨_ :: _ :: _, .swap _ _ _, .cons b (.cons a t)⟩
  | trans _ _ ih1 ih2 =>
    intro l₁ h
    obtain ⟨l, q, r⟩ := ih2 h
    obtain ⟨l', q', r'⟩ := ih1 r
    exact ⟨l', q'.trans q, r'⟩
theorem keyOut_of {ks : List Int} {xs : List V} {us out : List Value} (r : Vals xs us) (h : KskOut false ks us out) : ∃ ys, KeyOut ks xs ys ∧ Vals ys out := by
  obtain ⟨ps, p, e, o⟩ := h
  obtain ⟨l, q, pr⟩ := perm_paired p (zip_paired r ks)
  refine ⟨l.map Prod.snd, ⟨l, q, rfl, ?_⟩, ?_⟩
  · clear e p q
    induction pr with
    | nil => exact .nil
    | @cons a b as bs h t ih =>
      cases o with
      | cons o1 o2 =>
        refine .cons (fun y hy => ?_) (ih o2)
        obtain ⟨i, hi⟩ := List.getElem?_of_mem hy
        obtain ⟨z, hz, e1, _⟩ := paired_get t hi
        have := o1 z (List.mem_of_getElem? hz)
        rw [h.1, e1]
        simpa using this
  · rw [e]
    clear e p q o
    induction pr with
    | nil => exact .nil
    | cons h t ih => exact .cons h.2 ih

theorem recs_step {ch : List Addr} {h' : Heap} {tk : Nat} (I : Inv X pins σ H s) (hf : ∀ b ∈ ch, FpOk X pins H b) (kp : ∀ b o, b ≠ X.env.locals → b ∉ ch → s.heap.get? b = some o → h'.get? b = some o)
    (ns : ∀ m, s.heap.Ns X.env.locals m → h'.Ns X.env.locals m) : Inv X pins σ H { s with heap := h', toks := tk } := by
  have far : ∀ {b u}, H b = some u → b ≠ X.env.locals ∧ b ∉ ch := fun {b u} z => ⟨fun e => (by rw [e, I.free] at z; cases z), fun e => (by rw [(hf b e).1] at z; cases z)⟩
  refine I.step (g' := s.gens) (d' := s.drawn) (ch := ch) (fun b hb => let z := hf b hb; ⟨z.2.2.2.1, z.2.1, z.2.2.2.2.1, z.2.2.2.2.2⟩) (fun b o n1 _ n2 z _ => kp b o n1 n2 z) (fun b o n1 _ n2 z _ => ⟨o.slots, kp b o n1 n2 z⟩) (fun _ _ _ _ z => z) (fun b o n2 z => ?_)
    (fun _ _ z => z) (fun _ _ _ z => z) (fun b q z => ⟨#[], by rw [z]; simp⟩) ns (fun b u z => (I.hok b u z).stay (fun c v hc q => ?_) (fun _ q => q) fun _ _ q => q) I.bare
  · by_cases n1 : b = X.env.locals
    · obtain ⟨m, hn, _⟩ := I.loc
      obtain ⟨o', _, _, e', _⟩ := ns m hn
      exact ⟨o', by rw [n1]; exact e'⟩
    · exact ⟨o, kp b o n1 n2 z⟩
  · rcases hc with w | w
    · rw [w] at q ⊢
      exact kp b v (far z).1 (far z).2 q
    · exact kp c v (far w).1 (far w).2 q
/-- a record of ours is tracked from now on -/
theorem track {a : Addr} {u : HO} (I : Inv X pins σ H s) (f : FpOk X pins H a) (new : ObjOk X.prog X.w (upd H a u) s.heap a u) : Inv X pins σ (upd H a u) s := by
  have un : ∀ {b v}, H b = some v → upd H a u b = some v := fun {b v} z => by rw [upd_ne (ne_of_none z f.1)]; exact z
  refine I.step (s := s) (g' := s.gens) (d' := s.drawn) (t' := s.toks) (h' := s.heap) (ch := [a]) (fun b hb => ?_) (fun b o _ _ _ z _ => z) (fun b o _ _ _ z _ => ⟨o.slots, z⟩) (fun b o n2 _ z => ?_) (fun b o _ z => ⟨o, z⟩)
    (fun _ _ z => un z) (fun _ _ _ z => un z) (fun b q z => ⟨#[], by rw [un z]; simp⟩) (fun m z => z) (fun b v z => ?_) I.bare
  · rw [List.mem_singleton.mp hb]
    exact ⟨f.2.2.2.1, f.2.1, f.2.2.2.2.1, f.2.2.2.2.2⟩
  · rw [upd_ne (fun e => n2 (List.mem_singleton.mpr e))]
    exact z
  · by_cases e : b = a
    · subst e
      rw [upd_same] at z
      rw [← Option.some.inj z]
      exact new
    · rw [upd_ne e] at z
      exact (I.hok b v z).stay (fun _ _ _ q => q) (fun _ q => un q) fun _ _ q => un q
/-- the keys made, then the sort, then the end: the list at D stands empty meanwhile -/
theorem sort_keys {k j : Nat} {f D kS : Addr} {fd : FuncData} {ps : List Str} {sp : Sp} {us : List Value} {xs : List V} {ks : List Int} {e1 : Nat} {E : Value → Shared → Prop} {P : PySem.Fin → Shared → Prop}
    (F : FnOk X.prog X.w X.K X.mg X.base CX0 k f fd ps sp) (b : Binds X.K fd ps []) (hr : Room j X.A) (hk : k + 2 ≤ j) (I : Inv X pins σ H s) (rv : Vals xs us) (hl : ks.length = xs.length) (hz : us.length ≤ sizeLine)
    (fS : FpOk X pins H kS) (fD : FpOk X pins H D) (ne : kS ≠ D) (bS : X.base.get? kS = none) (bD : X.base.get? D = none) (eS : s.heap.get? kS = some keyO) (eD : s.heap.get? D = some (seqObj "list" #[] e1))
    (key : ∀ (i : Nat) (x : V) (n : Int), xs[i]? = some x → ks[i]? = some n → ∀ H', Ex H H' → ∀ Q : VK, (∀ H'', Ex H' H'' → Q (.int n) H'') → sp [x] H' Q E0)
    (h : ∀ (s' : Shared) (H' : Hp) (ys : List V) (out : List Value) (c : Nat), Ex H H' → Inv X pins σ H' s' → FpOk X pins H' D → s'.heap.get? D = some (seqObj "list" out.toArray c) → KeyOut ks xs ys → Vals ys out → P (.done (.ret .none)) s') :
    wpAny (model X.prog X.w) X.A.in1.in1 (ksk_rest D (.ref f) false us.toArray e1 (.ref kS)) P E s := by
  have len := rv.length
  unfold ksk_rest
  refine wpAny_bind (wpAny_rule ?_)
  first
    | rw [List.forIn_toArray]
    | (rw [← Array.forIn_toList]; simp only [List.toList_toArray])
    | rw [← Array.forIn_toList]
  refine wpAny_bind (ksk_fold (fun i s' => ∃ (H' : Hp) (kA : Array Value) (n : Nat), Ex H H' ∧ Inv X ((kS, seqObj "list" kA n) :: (D, seqObj "list" #[] e1) :: pins) σ H' s' ∧ IntsAre kA.toList (ks.take i)) us 0 s
    ⟨H, #[], 0, Ex.refl H, ?start, by simpa using IntsAre.nil⟩ (fun i u s' hx z => ?step) fun s' z => ?done)
  case start =>
    have I1 := pin_add I eD fD (nocell _ _)
    exact pin_add I1 eS ⟨fS.1, fS.2.1, fS.2.2.1, fS.2.2.2.1, fS.2.2.2.2.1, fun p hp => by
      rcases List.mem_append.mp hp with q | q
      · exact fS.2.2.2.2.2 p (List.mem_append_left _ q)
      · rcases List.mem_cons.mp q with q | q
        · rw [q]; exact ne.symm
        · exact fS.2.2.2.2.2 p (List.mem_append_right _ q)⟩ (nocell _ _)
  case step =>
    obtain ⟨H', kA, n, ex, I', hk'⟩ := z
    simp only [Nat.zero_add] at hk' ⊢
    have hi : i < us.length := (List.getElem?_eq_some_iff.mp hx).1
    have hix : i < xs.length := by omega
    have hik : i < ks.length := by omega
    obtain ⟨u2, hu2, ru⟩ := rv.get (List.getElem?_eq_getElem hix)
    have eu : u2 = u := Option.some.inj (hu2.symm.trans hx)
    subst eu
    have sz : kA.size ≤ us.length := by
      have h1 := hk'.length
      rw [Array.length_toList, List.length_take] at h1
      omega
    refine wpAny_bind (wpAny_attempt (wpAny_mono (run_in2 (E := fun _ _ => False) (Q := fun v H'' => v = .int ks[i] ∧ Ex H H'') F b hr hk I' (.cons ru .nil) (key i _ _ (List.getElem?_eq_getElem hix) (List.getElem?_eq_getElem hik) H' ex _ fun H'' q => ⟨rfl, ex.trans q⟩)) (fun v s2 z => ?_) fun _ _ q => False.elim q))
    obtain ⟨y, H2, I2, ry, ey, ex2⟩ := z
    subst ey
    obtain ⟨t, rfl⟩ := ry
    have pS := I2.pin (kS, seqObj "list" kA n) (List.mem_append_right _ List.mem_cons_self)
    have pD := I2.pin (D, seqObj "list" #[] e1) (List.mem_append_right _ (List.mem_cons_of_mem _ List.mem_cons_self))
    have sb := Heap.SameBut.update s2.heap kS (Obj.mapSeq (·.push (.int ks[i] t)))
    obtain ⟨c2, hc2⟩ : ∃ c2, (s2.heap.update kS (Obj.mapSeq (·.push (.int ks[i] t)))).get? kS = some (seqObj "list" (kA.push (.int ks[i] t)) c2) := ⟨_, get?_update_seq pS.1 (·.push (.int ks[i] t))⟩
    try dsimp only
    refine wpAny_bind (listUpdate_at pS.1 rfl (wpAny_pure ⟨rfl, H2, kA.push (.int ks[i] t), c2, ex2, ?_, ?_⟩) (by omega) (by rw [Array.size_push]; omega))
    · have I3 := rec_upd (tk := s2.toks) (pin_drop (pin_drop I2)) ⟨pS.2.1, fS.2⟩ sb
      have I4 := pin_add I3 ((sb.2 D ne.symm).trans pD.1) ⟨pD.2.1, fD.2⟩ (nocell _ _)
      exact pin_add I4 hc2 ⟨pS.2.1, fS.2.1, fS.2.2.1, fS.2.2.2.1, fS.2.2.2.2.1, fun p hp => by
        rcases List.mem_append.mp hp with q | q
        · exact fS.2.2.2.2.2 p (List.mem_append_left _ q)
        · rcases List.mem_cons.mp q with q | q
          · rw [q]; exact ne.symm
          · exact fS.2.2.2.2.2 p (List.mem_append_right _ q)⟩ (nocell _ _)
    · have ea : (kA.push (Value.int ks[i] t)).toList = kA.toList ++ [Value.int ks[i] t] := by simp
      rw [ea, List.take_add_one, List.getElem?_eq_getElem hik]
      exact ksk_snoc hk'
  case done =>
    obtain ⟨H', kA, n, ex, I', hk'⟩ := z
    rw [List.take_of_length_le (by omega)] at hk'
    have pS := I'.pin (kS, seqObj "list" kA n) (List.mem_append_right _ List.mem_cons_self)
    have pD := I'.pin (D, seqObj "list" #[] e1) (List.mem_append_right _ (List.mem_cons_of_mem _ List.mem_cons_self))
    try dsimp only
    refine wpAny_bind (listItems_at pS.1 rfl ?_)
    obtain ⟨m, hF⟩ := I'.fr
    have hN : News X.base X.env.locals s'.heap ((allNews X.base s'.heap X.env.locals).filter (fun p => decide (p.1 ≠ kS ∧ p.1 ≠ D)) ++ [(kS, seqObj "list" kA n), (D, seqObj "list" #[] e1)]) := fun p hp => by
      rcases List.mem_append.mp hp with q | q
      · exact news_all p (List.mem_filter.mp q).1
      · simp only [List.mem_cons, List.not_mem_nil, or_false] at q
        rcases q with q | q <;> rw [q]
        · exact ⟨pS.1, pS.2.2.1, bS⟩
        · exact ⟨pD.1, pD.2.2.1, bD⟩
    refine ksk_end_Any hF hN ne (fun p hp => (of_decide_eq_true (List.mem_filter.mp hp).2).1) (fun p hp => (of_decide_eq_true (List.mem_filter.mp hp).2).2) hk' (by omega) hz fun h' tk out c hF' hN' ko => ?_
    obtain ⟨ys, kO, rO⟩ := keyOut_of rv ko
    have I0 := pin_drop (pin_drop I')
    have keep : ∀ b o, b ≠ X.env.locals → b ≠ kS → b ≠ D → s'.heap.get? b = some o → h'.get? b = some o := fun b o n1 n2 n3 z => by
      cases q : X.base.get? b with
      | some o2 =>
        have z2 := I'.bk b o2 q
        rw [z] at z2
        rw [Option.some.inj z2]
        exact hF'.keep b o2 q
      | none => exact (hN' (b, o) (List.mem_cons_of_mem _ (List.mem_filter.mpr ⟨mem_allNews n1 q z, decide_eq_true ⟨n2, n3⟩⟩))).1
    have mem2 : ∀ b, b ∈ [kS, D] ↔ b = kS ∨ b = D := fun b => by simp
    have I5 : Inv X pins σ H' { s' with heap := h', toks := tk } := recs_step (ch := [kS, D]) I0 (fun b hb => by
        rcases (mem2 b).mp hb with q | q <;> rw [q]
        · exact ⟨pS.2.1, fS.2⟩
        · exact ⟨pD.2.1, fD.2⟩)
      (fun b o n1 n2 z => keep b o n1 (fun q => n2 ((mem2 b).mpr (.inl q))) (fun q => n2 ((mem2 b).mpr (.inr q))) z) fun m' hm => by
        rw [SlX.ns_only hm hF.ns]
        exact hF'.ns
    have eO := (hN' (D, seqObj "list" out c) List.mem_cons_self).1
    exact h _ H' ys out.toList c ex I5 ⟨pD.2.1, fD.2⟩ (by rw [Array.toArray_toList]; exact eO) kO rO
/-- sorted(l, key = f), f a def that gives ints -/
def rSortKey (K : PySem.W.Frag) (f : Addr) (sp : Sp) : List V → List V → Hp → VK → Prop := fun vs zs H Q => ∃ (l : Addr) (xs : List V) (ks : List Int), vs = [.ref l] ∧ zs = [.ref f] ∧ SqL K H l xs ∧ ks.length = xs.length ∧
  (∀ (i : Nat) (x : V) (n : Int), xs[i]? = some x → ks[i]? = some n → ∀ H', Ex H H' → ∀ Q : VK, (∀ H'', Ex H' H'' → Q (.int n) H'') → sp [x] H' Q E0) ∧
  ∀ D H' ys, H D = none → H' D = none → Ex H H' → KeyOut ks xs ys → Q (.ref D) (upd H' D (.lst ys))
theorem cr_sortKey {k j : Nat} {f : Addr} {fd : FuncData} {ps : List Str} {sp : Sp} (F : FnOk X.prog X.w X.K X.mg X.base CX0 k f fd ps sp) (b : Binds X.K fd ps []) (hr : Room j X.A) (hk : k + 2 ≤ j) :
    CallRK X (.builtin "sorted") [Str.ofString "key"] (rSortKey X.K f sp) := fun pins s σ H vs zs us ws Q I r rz h => by
  obtain ⟨l, xs, ks, rfl, rfl, hs, hl, key, q⟩ := h
  obtain rfl := Vals.ref1 r
  obtain ⟨w1, rfl, e1⟩ := vals1 rz
  obtain rfl : w1 = Value.ref f := e1
  obtain ⟨its, rv, pl, hz⟩ := I.list hs
  have len := rv.length
  refine PySem.W.sorted_of_sort pl.isList (by omega) (ksk_s1 _ _) (fun _ => ksk_l1 _ _) fun E' => ?_
  show wpAny _ _ (ksk_tree (s.heap.objs.size + 1) (.ref f) false) _ _ _
  have dn : ∀ b, s.heap.objs.size ≤ b → FpOk X pins H b := fun b hb => I.fpOk hb (I.hok.fresh hb)
  have bn : ∀ b, s.heap.objs.size ≤ b → X.base.get? b = none := fun b hb => by
    cases z : X.base.get? b with
    | none => rfl
    | some o => exact absurd (Nat.lt_of_lt_of_le (Heap.lt_size (I.bk b o z)) hb) (Nat.lt_irrefl _)
  have c1 := PySem.W.copyHeap_at s.heap its
  have sb := Heap.SameBut.update (PySem.W.copyHeap s.heap its) (s.heap.objs.size + 1) (Obj.mapSeq fun _ => (#[] : Array Value))
  obtain ⟨e1, ho1⟩ : ∃ e1, ((PySem.W.copyHeap s.heap its).update (s.heap.objs.size + 1) (Obj.mapSeq fun _ => (#[] : Array Value))).get? (s.heap.objs.size + 1) = some (seqObj "list" #[] e1) := ⟨_, get?_update_seq c1 fun _ => #[]⟩
  unfold ksk_tree
  refine wpAny_bind (listItems_at c1 rfl ?_)
  refine wpAny_bind (listUpdate_at c1 rfl ?_ (by rw [List.size_toArray]; omega) (Nat.zero_le _))
  refine wpAny_bind (seqEpoch_at ho1 rfl ?_)
  refine wpAny_bind (wpAny_newTuple ?_ (by show its.length ≤ _; omega))
  refine wpAny_bind (wpAny_newList ?_ (Nat.zero_le _))
  refine wpAny_holding ?_
  generalize hh : (PySem.W.copyHeap s.heap its).update (s.heap.objs.size + 1) (Obj.mapSeq fun _ => (#[] : Array Value)) = h1 at ho1 sb
  have old1 : ∀ b o, s.heap.get? b = some o → h1.get? b = some o := fun b o z => (sb.2 b (Nat.ne_of_lt (Nat.lt_succ_of_lt (Heap.lt_size z)))).trans (PySem.W.copyHeap_old z)
  have lt1 : s.heap.objs.size + 1 < h1.objs.size := Heap.lt_size ho1
  have sz2 : (h1.push (seqObj "tuple" its.toArray 0)).objs.size = h1.objs.size + 1 := Heap.size_push ..
  refine sort_keys (D := s.heap.objs.size + 1) (kS := (h1.push (seqObj "tuple" its.toArray 0)).objs.size) (H := H) (pins := pins) (σ := σ) F b hr hk (I.kept (t' := s.toks) (h' := (h1.push (seqObj "tuple" its.toArray 0)).push (seqObj "list" #[] 0)) fun b o z => Heap.get?_push_of_some _ (Heap.get?_push_of_some _ (old1 b o z))) rv hl (by omega)
    (dn _ (by omega)) (dn _ (Nat.le_succ _)) (Nat.ne_of_gt (by omega)) (bn _ (by omega)) (bn _ (Nat.le_succ _)) (Heap.get?_push_size _ rfl) (Heap.get?_push_of_some _ (Heap.get?_push_of_some _ ho1)) key fun s' H' ys out c ex I' fD eO ko ro => ⟨rfl, ?_⟩
  have hlen : ys.length ≤ sizeLine := by
    obtain ⟨ps, p1, p2, _⟩ := ko
    rw [p2, List.length_map, p1.length_eq, List.length_zip]
    omega
  refine ⟨.ref (s.heap.objs.size + 1), _, ?_, rfl, q _ H' ys (I.hok.fresh (Nat.le_succ _)) fD.1 ex ko⟩
  exact track I' fD ⟨hlen, out, c, ro, eO⟩
end
end Wk
-- W1
namespace Wk
open PySem PySem.Spec PyProof.Rows L2 Evl

abbrev D := PyData
mutual
theorem dp_mono {K : PySem.W.Frag} {H H' : Hp} (e : Ex H H') : ∀ (d : D) {v : V}, Dp K H v d → Dp K H' v d
  | .none, _, h => by cases h; exact .non
  | .bool b, _, h => by cases h; exact .bl b
  | .int i, _, h => by cases h; exact .int i
  | .str x, _, h => by cases h; exact .str x
  | .list ds, _, h => by cases h with | lst s a => exact .lst (ex_l e s) (dps_mono e ds a)
  | .tuple ds, _, h => by cases h with | tup s a => exact .tup (ex_t e s) (dps_mono e ds a)
  | .dict _, _, h => by cases h
theorem dps_mono {K : PySem.W.Frag} {H H' : Hp} (e : Ex H H') : ∀ (ds : List D) {vs : List V}, DpAll K H vs ds → DpAll K H' vs ds
  | [], _, h => by cases h; exact .nil
  | d :: ds, _, h => by cases h with | cons a b => exact .cons (dp_mono e d a) (dps_mono e ds b)
end
theorem dps_len {K : PySem.W.Frag} {H : Hp} : ∀ {ds : List D} {vs : List V}, DpAll K H vs ds → vs.length = ds.length
  | [], _, h => by cases h; rfl
  | d :: ds, _, h => by cases h with | cons a b => rw [List.length_cons, List.length_cons, dps_len b]
theorem dps_get {K : PySem.W.Frag} {H : Hp} : ∀ {ds : List D} {vs : List V} {i : Nat} {v : V}, DpAll K H vs ds → vs[i]? = some v → ∃ d, ds[i]? = some d ∧ Dp K H v d
  | [], _, i, v, h, e => by cases h; simp at e
  | d :: ds, _, 0, v, h, e => by cases h with | cons a b => cases e; exact ⟨d, rfl, a⟩
  | d :: ds, _, i + 1, v, h, e => by cases h with | cons a b => exact dps_get (i := i) b e
theorem dps_get' {K : PySem.W.Frag} {H : Hp} {ds : List D} {vs : List V} {i : Nat} {d : D} (h : DpAll K H vs ds) (e : ds[i]? = some d) : ∃ v, vs[i]? = some v ∧ Dp K H v d := by
  have hi : i < vs.length := by rw [dps_len h]; exact (List.getElem?_eq_some_iff.mp e).1
  obtain ⟨d', e', r⟩ := dps_get h (List.getElem?_eq_getElem hi)
  rw [e] at e'
  cases e'
  exact ⟨_, List.getElem?_eq_getElem hi, r⟩
theorem dps_app {K : PySem.W.Frag} {H : Hp} : ∀ {ds es : List D} {vs us : List V}, DpAll K H vs ds → DpAll K H us es → DpAll K H (vs ++ us) (ds ++ es)
  | [], _, _, _, h, g => by cases h; exact g
  | d :: ds, _, _, _, h, g => by cases h with | cons a b => exact .cons a (dps_app b g)
theorem dps_set {K : PySem.W.Frag} {H : Hp} {v : V} {d : D} (r : Dp K H v d) : ∀ {ds : List D} {vs : List V} (i : Nat), DpAll K H vs ds → DpAll K H (vs.set i v) (ds.set i d)
  | [], _, i, h => by cases h; exact .nil
  | _ :: ds, _, 0, h => by cases h with | cons a b => exact .cons r b
  | _ :: ds, _, i + 1, h => by cases h with | cons a b => exact .cons a (dps_set r i b)
theorem dps_drop {K : PySem.W.Frag} {H : Hp} : ∀ {ds : List D} {vs : List V} (n : Nat), DpAll K H vs ds → DpAll K H (vs.drop n) (ds.drop n)
  | _, _, 0, h => h
  | [], _, n + 1, h => by cases h; exact .nil
  | _ :: ds, _, n + 1, h => by cases h with | cons a b => exact dps_drop n b
theorem dps_take {K : PySem.W.Frag} {H : Hp} : ∀ {ds : List D} {vs : List V} (n : Nat), DpAll K H vs ds → DpAll K H (vs.take n) (ds.take n)
  | _, _, 0, h => .nil
  | [], _, n + 1, h => by cases h; exact .nil
  | _ :: ds, _, n + 1, h => by cases h with | cons a b => exact .cons a (dps_take n b)
/-- ints and bools are themselves -/
theorem dp_int {K : PySem.W.Frag} {H : Hp} {v : V} {i : Int} (h : Dp K H v (.int i)) : v = .int i := by cases h; rfl
theorem dp_bool {K : PySem.W.Frag} {H : Hp} {v : V} {b : Bool} (h : Dp K H v (.bool b)) : v = .bl b := by cases h; rfl
theorem dp_none {K : PySem.W.Frag} {H : Hp} {v : V} (h : Dp K H v .none) : v = .non := by cases h; rfl
theorem dps_ints {K : PySem.W.Frag} {H : Hp} : ∀ {ns : List Int} {vs : List V}, DpAll K H vs (ns.map PyData.int) → vs = ns.map V.int
  | [], _, h => by cases h; rfl
  | n :: ns, _, h => by cases h with | cons a b => rw [dp_int a, dps_ints b]; rfl
theorem dps_bools {K : PySem.W.Frag} {H : Hp} : ∀ {ns : List Bool} {vs : List V}, DpAll K H vs (ns.map PyData.bool) → vs = ns.map V.bl
  | [], _, h => by cases h; rfl
  | n :: ns, _, h => by cases h with | cons a b => rw [dp_bool a, dps_bools b]; rfl
theorem ints_dps {K : PySem.W.Frag} {H : Hp} : ∀ ns : List Int, DpAll K H (ns.map V.int) (ns.map PyData.int)
  | [] => .nil
  | n :: ns => .cons (.int n) (ints_dps ns)

/-- a list (true) or a tuple of data -/
def sqD (k : Bool) (ds : List D) : D := if k then .list ds else .tuple ds
theorem dp_sq {K : PySem.W.Frag} {H : Hp} {v : V} {k : Bool} {ds : List D} (h : Dp K H v (sqD k ds)) : ∃ a xs, v = .ref a ∧ SqB k K H a xs ∧ DpAll K H xs ds := by
  cases k with
  | true => cases (show Dp K H v (.list ds) from h) with | lst s a => exact ⟨_, _, rfl, s, a⟩
  | false => cases (show Dp K H v (.tuple ds) from h) with | tup s a => exact ⟨_, _, rfl, s, a⟩
theorem sq_dp {K : PySem.W.Frag} {H : Hp} {a : Addr} {xs : List V} {k : Bool} {ds : List D} (s : SqB k K H a xs) (h : DpAll K H xs ds) : Dp K H (.ref a) (sqD k ds) := by
  cases k with
  | true => exact .lst s h
  | false => exact .tup s h
theorem sqB_mono {K : PySem.W.Frag} {H H' : Hp} {a : Addr} {xs : List V} {k : Bool} (e : Ex H H') (h : SqB k K H a xs) : SqB k K H' a xs := by
  cases k with
  | true => exact ex_l e h
  | false => exact ex_t e h

/-- what is known of a slot: nothing; data; a list that stands live, of data; a value -/
inductive Ent where
  | no | dat (d : D) | liv (ds : List D) | val (v : V) | tk (ns : List Int)
def EntOk (K : PySem.W.Frag) (H : Hp) (o : Option (Option V)) : Ent → Prop
  | .no => True
  | .dat d => ∃ v, o = some (some v) ∧ Dp K H v d
  | .liv ds => ∃ p xs, o = some (some (.ref p)) ∧ H p = some (.lst xs) ∧ DpAll K H xs ds
  | .val v => o = some (some v)
  | .tk ns => ∃ p, o = some (some (.ref p)) ∧ H p = some (.tup (ns.map V.int))
abbrev Gam := List Ent
structure Env (K : PySem.W.Frag) (H : Hp) (σ : L2.St) (G : Gam) : Prop where
  len : σ.length = G.length
  at_ : ∀ i, EntOk K H σ[i]? (G.getD i .no)
section
variable {K : PySem.W.Frag} {H H' : Hp} {σ : L2.St} {G : Gam}
theorem EntOk.mono {o : Option (Option V)} (e : Ex H H') : ∀ {t : Ent}, EntOk K H o t → EntOk K H' o t
  | .no, _ => trivial
  | .dat d, ⟨v, a, b⟩ => ⟨v, a, dp_mono e d b⟩
  | .liv ds, ⟨p, xs, a, b, c⟩ => ⟨p, xs, a, e p _ b, dps_mono e ds c⟩
  | .val v, h => h
  | .tk ns, ⟨p, a, b⟩ => ⟨p, a, e p _ b⟩
theorem Env.mono (e : Ex H H') (h : Env K H σ G) : Env K H' σ G := ⟨h.len, fun i => (h.at_ i).mono e⟩
theorem Env.set {i : Nat} {v : V} {t : Ent} (h : Env K H σ G) (r : EntOk K H (some (some v)) t) : Env K H (σ.set i (some v)) (G.set i t) := by
  refine ⟨by rw [List.length_set, List.length_set, h.len], fun j => ?_⟩
  by_cases hj : i = j
  · subst hj
    by_cases hi : i < σ.length
    · rw [List.getElem?_set_self hi, List.getD_eq_getElem?_getD, List.getElem?_set_self (by rw [← h.len]; exact hi)]
      exact r
    · rw [List.set_eq_of_length_le (by omega), List.set_eq_of_length_le (by rw [← h.len]; omega)]
      exact h.at_ i
  · rw [List.getElem?_set_ne hj, List.getD_eq_getElem?_getD, List.getElem?_set_ne hj, ← List.getD_eq_getElem?_getD]
    exact h.at_ j
theorem Env.no {i : Nat} (h : Env K H σ G) : Env K H (σ.set i none) (G.set i .no) := by
  refine ⟨by rw [List.length_set, List.length_set, h.len], fun j => ?_⟩
  by_cases hj : i = j
  · subst hj
    by_cases hi : i < σ.length
    · have e : (G.set i Ent.no).getD i .no = .no := by rw [List.getD_eq_getElem?_getD, List.getElem?_set_self (by rw [← h.len]; exact hi)]; rfl
      rw [e]
      exact trivial
    · rw [List.set_eq_of_length_le (by omega), List.set_eq_of_length_le (by rw [← h.len]; omega)]
      exact h.at_ i
  · rw [List.getElem?_set_ne hj, List.getD_eq_getElem?_getD, List.getElem?_set_ne hj, ← List.getD_eq_getElem?_getD]
    exact h.at_ j
/-- forgetting -/
def Ent.le : Ent → Ent → Prop
  | .no, _ => True
  | .dat d, .dat e => d = e
  | .dat d, .liv ds => d = .list ds
  | .liv ds, .liv es => ds = es
  | .val v, .val u => v = u
  | .dat d, .tk ns => d = .tuple (ns.map .int)
  | .tk a, .tk b => a = b
  | _, _ => False
theorem EntOk.le {o : Option (Option V)} : ∀ {t u : Ent}, Ent.le t u → EntOk K H o u → EntOk K H o t
  | .no, _, _, _ => trivial
  | .dat d, .dat e, h, x => by cases (show d = e from h); exact x
  | .dat d, .liv ds, h, ⟨p, xs, a, b, c⟩ => by
    cases (show d = .list ds from h)
    exact ⟨.ref p, a, .lst (SqL.of b) c⟩
  | .liv ds, .liv es, h, x => by cases (show ds = es from h); exact x
  | .val v, .val u, h, x => by cases (show v = u from h); exact x
  | .dat d, .tk ns, h, ⟨p, a, b⟩ => by
    cases (show d = .tuple (ns.map .int) from h)
    exact ⟨.ref p, a, .tup (st_of b) (ints_dps ns)⟩
  | .tk a, .tk b, h, x => by cases (show a = b from h); exact x
def Gle : Gam → Gam → Prop
  | [], [] => True
  | a :: r, b :: s => Ent.le a b ∧ Gle r s
  | _, _ => False
theorem Env.le : ∀ {G G' : Gam} {σ : L2.St}, Gle G' G → Env K H σ G → Env K H σ G'
  | [], [], _, _, h => h
  | [], _ :: _, _, g, _ => g.elim
  | _ :: _, [], _, g, _ => g.elim
  | b :: s, a :: r, [], _, h => by have := h.len; simp at this
  | b :: s, a :: r, x :: σ, g, h => by
    have t : Env K H σ r := Env.le g.2 ⟨by have := h.len; simpa using this, fun i => by have := h.at_ (i + 1); simpa using this⟩
    refine ⟨by simp [t.len], fun i => ?_⟩
    cases i with
    | zero => exact EntOk.le g.1 (by have := h.at_ 0; simpa using this)
    | succ i => have := t.at_ i; simpa using this
def wipeG (G : Gam) : List Nat → Gam
  | [] => G
  | v :: vs => (wipeG G vs).set v .no
theorem Env.wipe (h : Env K H σ G) : ∀ vs : List Nat, Env K H (L2.wipe σ vs) (wipeG G vs)
  | [] => h
  | v :: vs => (Env.wipe h vs).no
end
end Wk
-- W2
namespace Wk
open PySem PySem.Spec PyProof.Rows L2 Evl

/-- H is grown to H', what is seen of it, B, to B': nothing that was hidden is seen -/
def Mu : Option HO → Prop
  | some (.tup _) => False
  | some _ => True
  | none => False
theorem Mu.ne {o : Option HO} (h : Mu o) : o ≠ none := fun e => by rw [e] at h; exact h
structure Ext (B H B' H' : Hp) : Prop where
  ex : Ex H H'
  bb : Ex B B'
  le : Ex B' H'
  hid : ∀ a, Mu (H a) → B a = none → B' a = none
theorem Ext.refl {B H : Hp} (h : Ex B H) : Ext B H B H := ⟨Ex.refl H, Ex.refl B, h, fun _ _ z => z⟩
theorem Ext.trans {B H B1 H1 B2 H2 : Hp} (a : Ext B H B1 H1) (b : Ext B1 H1 B2 H2) : Ext B H B2 H2 :=
  ⟨a.ex.trans b.ex, a.bb.trans b.bb, b.le, fun p n z => b.hid p (by
    cases e : H p with
    | none => exact absurd e n.ne
    | some o => rw [a.ex p o e, ← e]; exact n) (a.hid p n z)⟩
theorem Ext.new {B H : Hp} {p : Addr} {o : HO} (h : Ex B H) (n : H p = none) : Ext B H (upd B p o) (upd H p o) :=
  ⟨Ex.new n, Ex.new (fresh_back h n), fun a u z => by
    by_cases e : a = p
    · subst e
      rw [upd_same] at z ⊢
      exact z
    · rw [upd_ne e] at z ⊢
      exact h a u z, fun a na z => by
    rw [upd_ne (fun e => na.ne (by rw [e]; exact n))]
    exact z⟩
/-- a new thing that is not seen -/
theorem Ext.hide {B H : Hp} {p : Addr} {o : HO} (h : Ex B H) (n : H p = none) : Ext B H B (upd H p o) := ⟨Ex.new n, Ex.refl B, h.trans (Ex.new n), fun _ _ z => z⟩
theorem Ext.hideL {B H B' H' : Hp} (e : Ext B H B' H') (b : Hp) (h1 : Ex B b) (h2 : Ex b B') : Ext B H b H' := ⟨e.ex, h1, h2.trans e.le, fun a n z => by
  have q := e.hid a n z
  cases c : b a with
  | none => rfl
  | some o => rw [h2 a o c] at q; cases q⟩

section
variable (K : PySem.W.Frag)
/-- wherever the slots are so, the reading comes to a value that is so -/
def Ev (te : TE) (G : Gam) (t : Ent) : Prop := ∀ σ B H, Env K B σ G → Ex B H → ∀ Q : VK, (∀ v H' B', Ext B H B' H' → EntOk K B' (some (some v)) t → Q v H') → te σ H Q
/-- .. to a new live list of data, which need not be seen -/
def EvN (te : TE) (G : Gam) (ds : List D) : Prop := ∀ σ B H, Env K B σ G → Ex B H → ∀ Q : VK, (∀ p xs H' B', H p = none → Ext B H B' H' → H' p = some (.lst xs) → B' p = none → DpAll K B' xs ds → Q (.ref p) H') → te σ H Q
def EvT (tt : TT) (G : Gam) (b : Bool) : Prop := ∀ σ B H, Env K B σ G → Ex B H → ∀ Q : Bool → Hp → Prop, (∀ H' B', Ext B H B' H' → Q b H') → tt σ H Q
def EvA (ta : TA) (G : Gam) (ds : List D) : Prop := ∀ σ B H, Env K B σ G → Ex B H → ∀ Q : List V → Hp → Prop, (∀ vs H' B', Ext B H B' H' → DpAll K B' vs ds → Q vs H') → ta σ H Q
def EvO (to : TO) (G : Gam) (o : Option Int) : Prop := ∀ σ B H, Env K B σ G → Ex B H → ∀ Q : Option Int → Hp → Prop, (∀ H' B', Ext B H B' H' → Q o H') → to σ H Q
/-- a call by values: data to data; to a new live list -/
def Cv (r : List V → Hp → VK → Prop) (ds : List D) (d : D) : Prop := ∀ vs B H, Ex B H → DpAll K B vs ds → ∀ Q : VK, (∀ v H' B', Ext B H B' H' → Dp K B' v d → Q v H') → r vs H Q
def CvN (r : List V → Hp → VK → Prop) (ds : List D) (es : List D) : Prop := ∀ vs B H, Ex B H → DpAll K B vs ds → ∀ Q : VK, (∀ p xs H' B', H p = none → Ext B H B' H' → H' p = some (.lst xs) → B' p = none → DpAll K B' xs es → Q (.ref p) H') → r vs H Q
/-- a two-place operation by values -/
def Rv (r : R2) (a b d : D) : Prop := ∀ x y B H, Ex B H → Dp K B x a → Dp K B y b → ∀ Q : VK, (∀ v H' B', Ext B H B' H' → Dp K B' v d → Q v H') → r x y H Q
/-- a promise -/
def Sv (sp : Sp) (ds : List D) (d : D) : Prop := ∀ vs B H, Ex B H → DpAll K B vs ds → ∀ Q : VK, (∀ v H' B', Ext B H B' H' → Dp K B' v d → Q v H') → ∀ E : XK, sp vs H Q E
def SvN (sp : Sp) (ds : List D) (es : List D) : Prop := ∀ vs B H, Ex B H → DpAll K B vs ds → ∀ Q : VK, (∀ p xs H' B', H p = none → Ext B H B' H' → H' p = some (.lst xs) → B' p = none → DpAll K B' xs es → Q (.ref p) H') → ∀ E : XK, sp vs H Q E
end
abbrev ED (K : PySem.W.Frag) (te : TE) (G : Gam) (d : D) : Prop := Ev K te G (.dat d)
section
variable {K : PySem.W.Frag} {G : Gam} {ta tb te tc : TE} {tt tu : TT} {d a b : D} {ds es : List D} {x y : Int} {p q : Bool} {i : Nat} {t u : Ent}
theorem ok_dat {H : Hp} {v : V} (r : Dp K H v d) : EntOk K H (some (some v)) (.dat d) := ⟨v, rfl, r⟩
theorem dat_ok {H : Hp} {v : V} (r : EntOk K H (some (some v)) (.dat d)) : Dp K H v d := by
  obtain ⟨_, z, r⟩ := r
  cases z
  exact r
theorem Ev.le (h : Ev K te G u) (l : Ent.le t u) : Ev K te G t := fun σ B H e eb Q k => h σ B H e eb Q fun v H' B' ex r => k v H' B' ex (EntOk.le l r)
theorem Ev.cast (h : ED K te G a) (e : a = b) : ED K te G b := e ▸ h
theorem EvN.cast (h : EvN K te G ds) (e : ds = es) : EvN K te G es := e ▸ h
theorem EvT.cast (h : EvT K tt G p) (e : p = q) : EvT K tt G q := e ▸ h
/-- a new list, seen -/
theorem see {B H B' H' : Hp} {p : Addr} {o : HO} (n : H p = none) (n' : B' p = none) (e : Ext B H B' H') (h : H' p = some o) : Ext B H (upd B' p o) H' :=
  ⟨e.ex, e.bb.trans (Ex.new n'), fun a u z => by
    by_cases q : a = p
    · subst q
      rw [upd_same] at z
      exact h.trans z
    · rw [upd_ne q] at z
      exact e.le a u z, fun a na z => by
    rw [upd_ne (fun q => na.ne (by rw [q]; exact n))]
    exact e.hid a na z⟩
theorem EvN.liv (h : EvN K te G ds) : Ev K te G (.liv ds) := fun σ B H e eb Q k => h σ B H e eb Q fun p xs H' B' hp ex r bp s => k _ H' _ (see hp bp ex r) ⟨p, xs, rfl, upd_same, dps_mono (Ex.new bp) ds s⟩
theorem Ev.dat (h : Ev K te G (.liv ds)) : ED K te G (.list ds) := h.le rfl
theorem EvN.dat (h : EvN K te G ds) : ED K te G (.list ds) := h.liv.dat
theorem ev_of (h : ∀ σ B H, Env K B σ G → Ex B H → ∃ v, EntOk K B (some (some v)) t ∧ ∀ Q : VK, Q v H → te σ H Q) : Ev K te G t := fun σ B H e eb Q k => let ⟨v, r, z⟩ := h σ B H e eb; z Q (k v H B (Ext.refl eb) r)

theorem env_dat {B : Hp} {σ : L2.St} (e : Env K B σ G) (h : G[i]? = some t) : EntOk K B σ[i]? t := by have z := e.at_ i; rw [List.getD_eq_getElem?_getD, h] at z; exact z
theorem ev_var (h : G[i]? = some (.dat d)) : ED K (tVar i) G d := ev_of fun σ B H e _ => by
  obtain ⟨v, a, r⟩ := env_dat e h
  exact ⟨v, ok_dat r, fun Q q => ⟨v, a, q⟩⟩
theorem ev_liv (h : G[i]? = some (.liv ds)) : Ev K (tVar i) G (.liv ds) := ev_of fun σ B H e _ => by
  obtain ⟨p, xs, a, b, c⟩ := env_dat e h
  exact ⟨.ref p, ⟨p, xs, rfl, b, c⟩, fun Q q => ⟨.ref p, a, q⟩⟩
theorem ev_val {v : V} (h : G[i]? = some (.val v)) : Ev K (tVar i) G (.val v) := ev_of fun σ B H e _ => ⟨v, rfl, fun Q q => ⟨v, env_dat e h, q⟩⟩
theorem ev_int : ED K (tC (.int x)) G (.int x) := ev_of fun _ _ _ _ _ => ⟨_, ok_dat (.int x), fun _ q => q⟩
theorem ev_bl : ED K (tC (.bl p)) G (.bool p) := ev_of fun _ _ _ _ _ => ⟨_, ok_dat (.bl p), fun _ q => q⟩
theorem ev_non : ED K (tC .non) G .none := ev_of fun _ _ _ _ _ => ⟨_, ok_dat .non, fun _ q => q⟩

theorem ev_op {r : R2} (ha : ED K ta G a) (hb : ED K tb G b) (hr : Rv K r a b d) : ED K (tOp r ta tb) G d := fun σ B H e eb Q k =>
  ha σ B H e eb _ fun u H1 B1 e1 r1 => hb σ B1 H1 (e.mono e1.bb) e1.le _ fun w H2 B2 e2 r2 =>
    hr u w B2 H2 e2.le (dp_mono e2.bb a (dat_ok r1)) (dat_ok r2) Q fun v H3 B3 e3 r3 => k v H3 B3 ((e1.trans e2).trans e3) (ok_dat r3)
theorem rv_I0 {g : Int → Int → V} (h : ∀ H, Dp K H (g x y) d) : Rv K (rI0 g) (.int x) (.int y) d := fun u w B H eb r1 r2 Q k => ⟨x, y, dp_int r1, dp_int r2, k _ H B (Ext.refl eb) (h B)⟩
theorem rv_I {C : Int → Int → Prop} {g : Int → Int → V} (c : C x y) (h : ∀ H, Dp K H (g x y) d) : Rv K (rI C g) (.int x) (.int y) d := fun u w B H eb r1 r2 Q k => ⟨x, y, dp_int r1, dp_int r2, c, k _ H B (Ext.refl eb) (h B)⟩
theorem ev_add (ha : ED K ta G (.int x)) (hb : ED K tb G (.int y)) : ED K (tOp (rI0 fun i j => .int (i + j)) ta tb) G (.int (x + y)) := ev_op ha hb (rv_I0 fun _ => .int _)
theorem ev_sub (ha : ED K ta G (.int x)) (hb : ED K tb G (.int y)) : ED K (tOp (rI0 fun i j => .int (i - j)) ta tb) G (.int (x - y)) := ev_op ha hb (rv_I0 fun _ => .int _)
theorem ev_mul {C : Int → Int → Prop} (ha : ED K ta G (.int x)) (hb : ED K tb G (.int y)) (c : C x y) : ED K (tOp (rI C fun i j => .int (i * j)) ta tb) G (.int (x * y)) := ev_op ha hb (rv_I c fun _ => .int _)
theorem ev_fdiv {C : Int → Int → Prop} (ha : ED K ta G (.int x)) (hb : ED K tb G (.int y)) (c : C x y) : ED K (tOp (rI C fun i j => .int (i.fdiv j)) ta tb) G (.int (x.fdiv y)) := ev_op ha hb (rv_I c fun _ => .int _)
theorem ev_fmod {C : Int → Int → Prop} (ha : ED K ta G (.int x)) (hb : ED K tb G (.int y)) (c : C x y) : ED K (tOp (rI C fun i j => .int (i.fmod j)) ta tb) G (.int (x.fmod y)) := ev_op ha hb (rv_I c fun _ => .int _)
theorem ev_pow {C : Int → Int → Prop} (ha : ED K ta G (.int x)) (hb : ED K tb G (.int y)) (c : C x y) : ED K (tOp (rI C fun i j => .int (i ^ j.toNat)) ta tb) G (.int (x ^ y.toNat)) := ev_op ha hb (rv_I c fun _ => .int _)
theorem ev_lt (ha : ED K ta G (.int x)) (hb : ED K tb G (.int y)) : ED K (tOp (rI0 fun i j => .bl (decide (i < j))) ta tb) G (.bool (decide (x < y))) := ev_op ha hb (rv_I0 fun _ => .bl _)
theorem ev_le (ha : ED K ta G (.int x)) (hb : ED K tb G (.int y)) : ED K (tOp (rI0 fun i j => .bl (decide (i ≤ j))) ta tb) G (.bool (decide (x ≤ y))) := ev_op ha hb (rv_I0 fun _ => .bl _)
theorem ev_gt (ha : ED K ta G (.int x)) (hb : ED K tb G (.int y)) : ED K (tOp (rI0 fun i j => .bl (decide (j < i))) ta tb) G (.bool (decide (y < x))) := ev_op ha hb (rv_I0 fun _ => .bl _)
theorem ev_ge (ha : ED K ta G (.int x)) (hb : ED K tb G (.int y)) : ED K (tOp (rI0 fun i j => .bl (decide (j ≤ i))) ta tb) G (.bool (decide (y ≤ x))) := ev_op ha hb (rv_I0 fun _ => .bl _)
theorem rv_eq (s1 : SeqAt.shaped a = true) (s2 : SeqAt.shaped b = true) : Rv K (rEqD K) a b (.bool (PyData.eqv a b)) := fun u w B H eb r1 r2 Q k => ⟨a, b, dp_mono eb a r1, dp_mono eb b r2, s1, s2, k _ H B (Ext.refl eb) (.bl _)⟩
theorem rv_ne (s1 : SeqAt.shaped a = true) (s2 : SeqAt.shaped b = true) : Rv K (rNeD K) a b (.bool (!PyData.eqv a b)) := fun u w B H eb r1 r2 Q k => ⟨a, b, dp_mono eb a r1, dp_mono eb b r2, s1, s2, k _ H B (Ext.refl eb) (.bl _)⟩
theorem ev_eq (ha : ED K ta G a) (hb : ED K tb G b) (s1 : SeqAt.shaped a = true) (s2 : SeqAt.shaped b = true) : ED K (tOp (rEqD K) ta tb) G (.bool (PyData.eqv a b)) := ev_op ha hb (rv_eq s1 s2)
theorem ev_ne (ha : ED K ta G a) (hb : ED K tb G b) (s1 : SeqAt.shaped a = true) (s2 : SeqAt.shaped b = true) : ED K (tOp (rNeD K) ta tb) G (.bool (!PyData.eqv a b)) := ev_op ha hb (rv_ne s1 s2)
/-- ints: whatever the rule -/
theorem ev_eqI (ha : ED K ta G (.int x)) (hb : ED K tb G (.int y)) : ED K (tOp (rEqD K) ta tb) G (.bool (x == y)) := ev_eq ha hb rfl rfl
theorem ev_neI (ha : ED K ta G (.int x)) (hb : ED K tb G (.int y)) : ED K (tOp (rNeD K) ta tb) G (.bool (!(x == y))) := ev_ne ha hb rfl rfl
def isN : D → Bool
  | .none => true
  | _ => false
abbrev rIsNone : R2 := fun x y H Q => y = .non ∧ Q (.bl (decide (x = .non))) H
abbrev rNotNone : R2 := fun x y H Q => y = .non ∧ Q (.bl (!decide (x = .non))) H
theorem ev_isN (ha : ED K ta G a) : ED K (tOp rIsNone ta (tC .non)) G (.bool (isN a)) := ev_op ha ev_non fun u w B H eb r1 r2 Q k => by
  refine ⟨dp_none r2, k _ H B (Ext.refl eb) ?_⟩
  cases r1 with
  | non => exact .bl true
  | _ => exact .bl false
theorem ev_notN (ha : ED K ta G a) : ED K (tOp rNotNone ta (tC .non)) G (.bool (!isN a)) := ev_op ha ev_non fun u w B H eb r1 r2 Q k => by
  refine ⟨dp_none r2, k _ H B (Ext.refl eb) ?_⟩
  cases r1 with
  | non => exact .bl false
  | _ => exact .bl true
theorem ev_neg (ha : ED K ta G (.int x)) : ED K (tUn (rU fun i => .int (-i)) ta) G (.int (-x)) := fun σ B H e eb Q k => ha σ B H e eb _ fun v H1 B1 e1 r1 => ⟨x, dp_int (dat_ok r1), k _ H1 B1 e1 (ok_dat (.int _))⟩
/-- in, not in, of ints -/
theorem flat_ints (ns : List Int) : (ns.map V.int).all flatV = true := by simp [flatV]
theorem inV_ints (n : Int) (ns : List Int) : inV (.int n) (ns.map V.int) = decide (n ∈ ns) := by
  unfold inV
  rw [List.any_map]
  induction ns with
  | nil => rfl
  | cons m ms ih =>
    rw [List.any_cons, ih]
    by_cases h : n = m
    · subst h
      simp [eqV]
    · have h2 : eqV (.int m) (.int n) = false := by
        simp [eqV]
        exact fun z => h z.symm
      simp only [Function.comp, h2, Bool.false_or, List.mem_cons]
      simp [h]
theorem sqB_or {H : Hp} {k : Bool} {a : Addr} {xs : List V} (s : SqB k K H a xs) : SqL K H a xs ∨ SqT K H a xs := by
  cases k with
  | true => exact .inl s
  | false => exact .inr s
theorem ev_in {k : Bool} {ns : List Int} (ha : ED K ta G (.int x)) (hb : ED K tb G (sqD k (ns.map .int))) : ED K (tOp (rIn K false) ta tb) G (.bool (decide (x ∈ ns))) := ev_op ha hb fun u w B H eb r1 r2 Q kk => by
  obtain ⟨p, xs, rfl, s, r⟩ := dp_sq r2
  rw [dps_ints r] at s
  rw [dp_int r1]
  refine ⟨p, _, rfl, sqB_or (sqB_mono eb s), rfl, flat_ints ns, kk _ H B (Ext.refl eb) ?_⟩
  rw [if_neg Bool.false_ne_true, inV_ints]
  exact .bl _
theorem ev_notIn {k : Bool} {ns : List Int} (ha : ED K ta G (.int x)) (hb : ED K tb G (sqD k (ns.map .int))) : ED K (tOp (rIn K true) ta tb) G (.bool (!decide (x ∈ ns))) := ev_op ha hb fun u w B H eb r1 r2 Q kk => by
  obtain ⟨p, xs, rfl, s, r⟩ := dp_sq r2
  rw [dps_ints r] at s
  rw [dp_int r1]
  refine ⟨p, _, rfl, sqB_or (sqB_mono eb s), rfl, flat_ints ns, kk _ H B (Ext.refl eb) ?_⟩
  rw [if_pos rfl, inV_ints]
  exact .bl _
/-- s[i], the index told as a natural number -/
theorem rv_ix {k : Bool} {n : Nat} (e : x = (n : Int)) (h : ds[n]? = some d) : Rv K (rIx K) (sqD k ds) (.int x) d := fun u w B H eb r1 r2 Q kk => by
  obtain ⟨p, xs, rfl, s, r⟩ := dp_sq r1
  obtain ⟨v, hv, rd⟩ := dps_get' r h
  rw [dp_int r2]
  have s' := sqB_mono eb s
  cases k with
  | true => exact .inl ⟨p, xs, x, v, rfl, rfl, s', by rw [e]; exact atI_nat hv, kk v H B (Ext.refl eb) rd⟩
  | false => exact .inr (.inl ⟨p, xs, x, v, rfl, rfl, s', by rw [e]; exact atI_nat hv, kk v H B (Ext.refl eb) rd⟩)
theorem ev_ix {k : Bool} {n : Nat} (ha : ED K ta G (sqD k ds)) (hb : ED K tb G (.int x)) (e : x = (n : Int)) (h : ds[n]? = some d) : ED K (tOp (rIx K) ta tb) G d := ev_op ha hb (rv_ix e h)

theorem et_test (h : ED K te G (.bool p)) : EvT K (tTest te) G p := fun σ B H e eb Q k => h σ B H e eb _ fun v H1 B1 e1 r => ⟨p, dp_bool (dat_ok r), k H1 B1 e1⟩
theorem et_B (h : ED K te G (.bool p)) : EvT K (tB te) G p := fun σ B H e eb Q k => h σ B H e eb _ fun v H1 B1 e1 r => ⟨p, dp_bool (dat_ok r), k H1 B1 e1⟩
theorem et_and (h1 : EvT K tt G p) (h2 : p = true → EvT K tu G q) : EvT K (tAnd tt tu) G (p && q) := fun σ B H e eb Q k => h1 σ B H e eb _ fun H1 B1 e1 => by
  cases p with
  | true => exact h2 rfl σ B1 H1 (e.mono e1.bb) e1.le Q fun H2 B2 e2 => k H2 B2 (e1.trans e2)
  | false => exact k H1 B1 e1
theorem et_or (h1 : EvT K tt G p) (h2 : p = false → EvT K tu G q) : EvT K (tOr tt tu) G (p || q) := fun σ B H e eb Q k => h1 σ B H e eb _ fun H1 B1 e1 => by
  cases p with
  | true => exact k H1 B1 e1
  | false => exact h2 rfl σ B1 H1 (e.mono e1.bb) e1.le Q fun H2 B2 e2 => k H2 B2 (e1.trans e2)
theorem et_not (h1 : EvT K tt G p) : EvT K (tNot tt) G (!p) := fun σ B H e eb Q k => h1 σ B H e eb _ fun H1 B1 e1 => k H1 B1 e1
theorem et_yes : EvT K tYes G true := fun σ B H _ eb Q k => k H B (Ext.refl eb)
theorem ev_and (h1 : ED K ta G (.bool p)) (h2 : p = true → ED K tb G (.bool q)) : ED K (tAndV ta tb) G (.bool (p && q)) := fun σ B H e eb Q k => h1 σ B H e eb _ fun v H1 B1 e1 r => ⟨p, dp_bool (dat_ok r), by
  cases p with
  | true => exact h2 rfl σ B1 H1 (e.mono e1.bb) e1.le Q fun w H2 B2 e2 => k w H2 B2 (e1.trans e2)
  | false => exact k _ H1 B1 e1 (ok_dat (.bl _))⟩
theorem ev_or (h1 : ED K ta G (.bool p)) (h2 : p = false → ED K tb G (.bool q)) : ED K (tOrV ta tb) G (.bool (p || q)) := fun σ B H e eb Q k => h1 σ B H e eb _ fun v H1 B1 e1 r => ⟨p, dp_bool (dat_ok r), by
  cases p with
  | true => exact k _ H1 B1 e1 (ok_dat (.bl _))
  | false => exact h2 rfl σ B1 H1 (e.mono e1.bb) e1.le Q fun w H2 B2 e2 => k w H2 B2 (e1.trans e2)⟩
theorem ev_not (h1 : ED K ta G (.bool p)) : ED K (tNotV ta) G (.bool (!p)) := fun σ B H e eb Q k => h1 σ B H e eb _ fun v H1 B1 e1 r => ⟨p, dp_bool (dat_ok r), k _ H1 B1 e1 (ok_dat (.bl _))⟩
theorem ev_if (h : EvT K tt G p) (h1 : p = true → Ev K ta G t) (h2 : p = false → Ev K tb G t) : Ev K (tIf tt ta tb) G t := fun σ B H e eb Q k => h σ B H e eb _ fun H1 B1 e1 => by
  cases p with
  | true => exact h1 rfl σ B1 H1 (e.mono e1.bb) e1.le Q fun w H2 B2 e2 => k w H2 B2 (e1.trans e2)
  | false => exact h2 rfl σ B1 H1 (e.mono e1.bb) e1.le Q fun w H2 B2 e2 => k w H2 B2 (e1.trans e2)

theorem ea_nil : EvA K tNil G [] := fun σ B H _ eb Q k => k [] H B (Ext.refl eb) .nil
theorem ea_cons {tr : TA} (h : ED K te G d) (hr : EvA K tr G ds) : EvA K (tCons te tr) G (d :: ds) := fun σ B H e eb Q k => h σ B H e eb _ fun v H1 B1 e1 r => hr σ B1 H1 (e.mono e1.bb) e1.le _ fun vs H2 B2 e2 rs =>
  k _ H2 B2 (e1.trans e2) (.cons (dp_mono e2.bb d (dat_ok r)) rs)
theorem ea_star {k : Bool} {tr : TA} (h : ED K te G (sqD k es)) (hr : EvA K tr G ds) : EvA K (StX.tStar K te tr) G (es ++ ds) := fun σ B H e eb Q kk => h σ B H e eb _ fun v H1 B1 e1 r => by
  obtain ⟨p, xs, rfl, s, rx⟩ := dp_sq (dat_ok r)
  exact ⟨p, xs, rfl, (sqB_or (sqB_mono e1.le s)).symm, hr σ B1 H1 (e.mono e1.bb) e1.le _ fun vs H2 B2 e2 rs => kk _ H2 B2 (e1.trans e2) (dps_app (dps_mono e2.bb es rx) rs)⟩
theorem ev_tup {ta : TA} (h : EvA K ta G ds) (hl : ds.length ≤ 100000) : ED K (tTup ta) G (.tuple ds) := fun σ B H e eb Q k => h σ B H e eb _ fun vs H1 B1 e1 r =>
  ⟨by rw [dps_len r]; exact sz_of hl, fun p hp => k _ _ _ (e1.trans (Ext.new e1.le hp)) (ok_dat (.tup (st_of upd_same) (dps_mono (Ex.new (fresh_back e1.le hp)) ds r)))⟩
theorem en_lst {ta : TA} (h : EvA K ta G ds) (hl : ds.length ≤ 100000) : EvN K (tLst ta) G ds := fun σ B H e eb Q k => h σ B H e eb _ fun vs H1 B1 e1 r =>
  ⟨by rw [dps_len r]; exact sz_of hl, fun p hp => k p vs _ B1 (fresh_back e1.ex hp) (e1.trans (Ext.hide e1.le hp)) upd_same (fresh_back e1.le hp) r⟩
theorem ev_cb {r : List V → Hp → VK → Prop} {ta : TA} (h : EvA K ta G ds) (hr : Cv K r ds d) : ED K (tCB r ta) G d := fun σ B H e eb Q k => h σ B H e eb _ fun vs H1 B1 e1 rs => hr vs B1 H1 e1.le rs Q fun v H2 B2 e2 rv => k v H2 B2 (e1.trans e2) (ok_dat rv)
theorem en_cb {r : List V → Hp → VK → Prop} {ta : TA} (h : EvA K ta G ds) (hr : CvN K r ds es) : EvN K (tCB r ta) G es := fun σ B H e eb Q k => h σ B H e eb _ fun vs H1 B1 e1 rs => hr vs B1 H1 e1.le rs Q fun p xs H2 B2 hp e2 h2 bp rv => k p xs H2 B2 (fresh_back e1.ex hp) (e1.trans e2) h2 bp rv
theorem ev_call {sp : Sp} {E : XK} {ta : TA} (h : EvA K ta G ds) (hs : Sv K sp ds d) : ED K (tCall sp [] E ta) G d := fun σ B H e eb Q k => h σ B H e eb _ fun vs H1 B1 e1 rs => by
  show sp (vs ++ []) H1 Q E
  rw [List.append_nil]
  exact hs vs B1 H1 e1.le rs Q (fun v H2 B2 e2 rv => k v H2 B2 (e1.trans e2) (ok_dat rv)) E
theorem en_call {sp : Sp} {E : XK} {ta : TA} (h : EvA K ta G ds) (hs : SvN K sp ds es) : EvN K (tCall sp [] E ta) G es := fun σ B H e eb Q k => h σ B H e eb _ fun vs H1 B1 e1 rs => by
  show sp (vs ++ []) H1 Q E
  rw [List.append_nil]
  exact hs vs B1 H1 e1.le rs Q (fun p xs H2 B2 hp e2 h2 bp rv => k p xs H2 B2 (fresh_back e1.ex hp) (e1.trans e2) h2 bp rv) E
end
end Wk
-- W3
namespace Wk
open PySem PySem.Spec PyProof.Rows L2 Evl

section
variable {K : PySem.W.Frag} {G : Gam} {ta tb te tl : TE} {tt : TT} {d a b : D} {ds es : List D} {x y : Int} {p q : Bool} {i : Nat}
abbrev rLenSq (K : PySem.W.Frag) : List V → Hp → VK → Prop := fun xs H Q => ∃ p ys, xs = [.ref p] ∧ (SqL K H p ys ∨ SqT K H p ys) ∧ Q (.int ys.length) H
abbrev rListOf (K : PySem.W.Frag) : List V → Hp → VK → Prop := fun xs H Q => ∃ p ys, xs = [.ref p] ∧ (SqL K H p ys ∨ SqT K H p ys) ∧ ∀ l, H l = none → Q (.ref l) (upd H l (.lst ys))
abbrev rTupOf (K : PySem.W.Frag) : List V → Hp → VK → Prop := fun xs H Q => ∃ p ys, xs = [.ref p] ∧ ((SqL K H p ys ∧ ∀ l, H l = none → Q (.ref l) (upd H l (.tup ys))) ∨ (SqT K H p ys ∧ Q (.ref p) H))
abbrev rAbs : List V → Hp → VK → Prop := fun xs H Q => ∃ i, xs = [.int i] ∧ Q (.int (if i < 0 then -i else i)) H
abbrev rMx2 : List V → Hp → VK → Prop := fun xs H Q => ∃ i j, xs = [.int i, .int j] ∧ Q (.int (if j > i then j else i)) H
abbrev rMn2 : List V → Hp → VK → Prop := fun xs H Q => ∃ i j, xs = [.int i, .int j] ∧ Q (.int (if j < i then j else i)) H
abbrev rInt1 : List V → Hp → VK → Prop := fun xs H Q => (∃ i, xs = [.int i] ∧ Q (.int i) H) ∨ ∃ k, xs = [.bl k] ∧ Q (.int (if k then 1 else 0)) H
theorem dps1 {H : Hp} {vs : List V} (h : DpAll K H vs [d]) : ∃ v, vs = [v] ∧ Dp K H v d := by
  cases h with | cons a b => cases b; exact ⟨_, rfl, a⟩
theorem dps2 {H : Hp} {vs : List V} (h : DpAll K H vs [a, b]) : ∃ v u, vs = [v, u] ∧ Dp K H v a ∧ Dp K H u b := by
  cases h with | cons a b => obtain ⟨u, rfl, r⟩ := dps1 b; exact ⟨_, u, rfl, a, r⟩
theorem cv_len {k : Bool} : Cv K (rLenSq K) [sqD k ds] (.int (ds.length : Int)) := fun vs B H eb h Q kk => by
  obtain ⟨v, rfl, r⟩ := dps1 h
  obtain ⟨p, xs, rfl, s, rx⟩ := dp_sq r
  exact ⟨p, xs, rfl, sqB_or (sqB_mono eb s), by rw [dps_len rx]; exact kk _ H B (Ext.refl eb) (.int _)⟩
theorem cv_list {k : Bool} : CvN K (rListOf K) [sqD k ds] ds := fun vs B H eb h Q kk => by
  obtain ⟨v, rfl, r⟩ := dps1 h
  obtain ⟨p, xs, rfl, s, rx⟩ := dp_sq r
  exact ⟨p, xs, rfl, sqB_or (sqB_mono eb s), fun l hl => kk l xs _ B hl (Ext.hide eb hl) upd_same (fresh_back eb hl) rx⟩
theorem cv_tuple {k : Bool} : Cv K (rTupOf K) [sqD k ds] (.tuple ds) := fun vs B H eb h Q kk => by
  obtain ⟨v, rfl, r⟩ := dps1 h
  obtain ⟨p, xs, rfl, s, rx⟩ := dp_sq r
  cases k with
  | true => exact ⟨p, xs, rfl, .inl ⟨ex_l eb s, fun l hl => kk _ _ _ (Ext.new eb hl) (.tup (st_of upd_same) (dps_mono (Ex.new (fresh_back eb hl)) ds rx))⟩⟩
  | false => exact ⟨p, xs, rfl, .inr ⟨ex_t eb s, kk _ H B (Ext.refl eb) (.tup s rx)⟩⟩
theorem cv_abs : Cv K rAbs [.int x] (.int (x.natAbs : Int)) := fun vs B H eb h Q kk => by
  obtain ⟨v, rfl, r⟩ := dps1 h
  refine ⟨x, by rw [dp_int r], ?_⟩
  have e : (if x < 0 then -x else x) = (x.natAbs : Int) := by split <;> omega
  rw [e]
  exact kk _ H B (Ext.refl eb) (.int _)
theorem cv_max2 : Cv K rMx2 [.int x, .int y] (.int (if y > x then y else x)) := fun vs B H eb h Q kk => by
  obtain ⟨v, u, rfl, r1, r2⟩ := dps2 h
  exact ⟨x, y, by rw [dp_int r1, dp_int r2], kk _ H B (Ext.refl eb) (.int _)⟩
theorem cv_min2 : Cv K rMn2 [.int x, .int y] (.int (if y < x then y else x)) := fun vs B H eb h Q kk => by
  obtain ⟨v, u, rfl, r1, r2⟩ := dps2 h
  exact ⟨x, y, by rw [dp_int r1, dp_int r2], kk _ H B (Ext.refl eb) (.int _)⟩
theorem cv_int : Cv K rInt1 [.int x] (.int x) := fun vs B H eb h Q kk => by
  obtain ⟨v, rfl, r⟩ := dps1 h
  exact .inl ⟨x, by rw [dp_int r], kk _ H B (Ext.refl eb) (.int _)⟩
theorem cv_intB : Cv K rInt1 [.bool p] (.int (if p then 1 else 0)) := fun vs B H eb h Q kk => by
  obtain ⟨v, rfl, r⟩ := dps1 h
  exact .inr ⟨p, by rw [dp_bool r], kk _ H B (Ext.refl eb) (.int _)⟩
theorem cv_sum {ns : List Int} : Cv K (rSum K) [.list (ns.map .int)] (.int ns.sum) := fun vs B H eb h Q kk => by
  obtain ⟨v, rfl, r⟩ := dps1 h
  obtain ⟨p, xs, rfl, s, rx⟩ := dp_sq (k := true) r
  rw [dps_ints rx] at s
  exact ⟨p, ns, rfl, ex_l eb s, kk _ H B (Ext.refl eb) (.int _)⟩
theorem cv_all {bs : List Bool} : Cv K (rAll K) [.list (bs.map .bool)] (.bool (bs.all id)) := fun vs B H eb h Q kk => by
  obtain ⟨v, rfl, r⟩ := dps1 h
  obtain ⟨p, xs, rfl, s, rx⟩ := dp_sq (k := true) r
  rw [dps_bools rx] at s
  exact ⟨p, bs, rfl, ex_l eb s, kk _ H B (Ext.refl eb) (.bl _)⟩
/-- the greatest of some ints, 0 for none -/
def maxI (ns : List Int) : Int := match ns with
  | [] => 0
  | n :: r => r.foldl max n
theorem maxI_spec {ns : List Int} (h : 0 < ns.length) : maxI ns ∈ ns ∧ ∀ y ∈ ns, y ≤ maxI ns := by
  cases ns with
  | nil => simp at h
  | cons n r =>
    have key : ∀ (r : List Int) (m : Int), (r.foldl max m = m ∨ r.foldl max m ∈ r) ∧ m ≤ r.foldl max m ∧ ∀ y ∈ r, y ≤ r.foldl max m := by
      intro r
      induction r with
      | nil => intro m; exact ⟨.inl rfl, Int.le_refl _, fun y hy => nomatch hy⟩
      | cons a s ih =>
        intro m
        obtain ⟨h1, h2, h3⟩ := ih (max m a)
        refine ⟨?_, by show m ≤ s.foldl max (max m a); omega, fun y hy => ?_⟩
        · show s.foldl max (max m a) = m ∨ s.foldl max (max m a) ∈ a :: s
          rcases h1 with h1 | h1
          · rw [h1]
            by_cases hh : m ≤ a
            · right; rw [Int.max_eq_right hh]; exact List.mem_cons_self
            · left; omega
          · exact .inr (List.mem_cons_of_mem _ h1)
        · show y ≤ s.foldl max (max m a)
          rcases List.mem_cons.mp hy with q | q
          · rw [q]; omega
          · exact h3 y q
    obtain ⟨h1, h2, h3⟩ := key r n
    refine ⟨?_, fun y hy => ?_⟩
    · rcases h1 with q | q
      · show r.foldl max n ∈ n :: r
        rw [q]; exact List.mem_cons_self
      · exact List.mem_cons_of_mem _ q
    · rcases List.mem_cons.mp hy with q | q
      · rw [q]; exact h2
      · exact h3 y q
theorem cv_max {ns : List Int} (h0 : 0 < ns.length) : Cv K (rMax K) [.list (ns.map .int)] (.int (maxI ns)) := fun vs B H eb h Q kk => by
  obtain ⟨v, rfl, r⟩ := dps1 h
  obtain ⟨p, xs, rfl, s, rx⟩ := dp_sq (k := true) r
  rw [dps_ints rx] at s
  refine ⟨p, ns, rfl, ex_l eb s, h0, fun m hm hle => ?_⟩
  obtain ⟨h1, h2⟩ := maxI_spec h0
  have e : m = maxI ns := Int.le_antisymm (h2 m hm) (hle _ h1)
  rw [e]
  exact kk _ H B (Ext.refl eb) (.int _)

def rSlB (K : PySem.W.Frag) : V → Option Int → Option Int → Hp → VK → Prop := fun x lo hi H Q => rSlL K x lo hi H Q ∨ rSlA K x lo hi H Q
theorem sl_any {X : Cx} : SlR X (rSlB X.K) := sl_list.or sl_tupA
theorem eo_none : EvO K tNoPart G none := fun σ B H _ eb Q k => k H B (Ext.refl eb)
theorem eo_some (h : ED K te G (.int x)) : EvO K (tPart te) G (some x) := fun σ B H e eb Q k => h σ B H e eb _ fun v H1 B1 e1 r => ⟨x, dp_int (dat_ok r), k H1 B1 e1⟩
def cutD (ds : List D) (lo hi : Option Int) : List D := (ds.drop (HT.sIx ds.length 0 lo)).take (HT.sIx ds.length ds.length hi - HT.sIx ds.length 0 lo)
theorem dps_cut {H : Hp} {vs : List V} (h : DpAll K H vs ds) (lo hi : Option Int) : DpAll K H (cutV vs lo hi) (cutD ds lo hi) := by
  unfold cutV cutD
  rw [dps_len h]
  exact dps_take _ (dps_drop _ h)
theorem ev_slice {k : Bool} {tlo thi : TO} {lo hi : Option Int} (he : ED K te G (sqD k ds)) (hl : EvO K tlo G lo) (hh : EvO K thi G hi) : ED K (tSl (rSlB K) te tlo thi) G (sqD k (cutD ds lo hi)) := fun σ B H e eb Q kk => he σ B H e eb _ fun v H1 B1 e1 r => hl σ B1 H1 (e.mono e1.bb) e1.le _ fun H2 B2 e2 => hh σ B2 H2 (e.mono (e1.bb.trans e2.bb)) e2.le _ fun H3 B3 e3 => by
  have r3 := dp_mono (e2.bb.trans e3.bb) _ (dat_ok r)
  have e13 := (e1.trans e2).trans e3
  cases k with
  | true =>
    obtain ⟨a, xs, rfl, s, rx⟩ := dp_sq (k := true) r3
    exact .inl ⟨a, xs, rfl, ex_l e3.le s, fun p hp => kk _ _ _ (e13.trans (Ext.new e3.le hp)) (ok_dat (.lst (sq_of upd_same) (dps_mono (Ex.new (fresh_back e3.le hp)) _ (dps_cut rx lo hi))))⟩
  | false =>
    obtain ⟨a, xs, rfl, s, rx⟩ := dp_sq (k := false) r3
    refine .inr ⟨a, xs, rfl, ex_t e3.le s, fun w => ?_, fun _ p hp => kk _ _ _ (e13.trans (Ext.new e3.le hp)) (ok_dat (.tup (st_of upd_same) (dps_mono (Ex.new (fresh_back e3.le hp)) _ (dps_cut rx lo hi))))⟩
    have el := dps_len rx
    refine kk _ H3 B3 e13 (ok_dat ?_)
    have ec : cutD ds lo hi = ds := by
      unfold cutD
      rw [← el, w.1, w.2, List.drop_zero, Nat.sub_zero, el]
      exact List.take_length
    rw [ec]
    exact .tup s rx
theorem en_slice {tlo thi : TO} {lo hi : Option Int} (he : ED K te G (.list ds)) (hl : EvO K tlo G lo) (hh : EvO K thi G hi) : EvN K (tSl (rSlB K) te tlo thi) G (cutD ds lo hi) := fun σ B H e eb Q kk => he σ B H e eb _ fun v H1 B1 e1 r => hl σ B1 H1 (e.mono e1.bb) e1.le _ fun H2 B2 e2 => hh σ B2 H2 (e.mono (e1.bb.trans e2.bb)) e2.le _ fun H3 B3 e3 => by
  obtain ⟨a, xs, rfl, s, rx⟩ := dp_sq (k := true) (dp_mono (e2.bb.trans e3.bb) _ (dat_ok r))
  have e13 := (e1.trans e2).trans e3
  exact .inl ⟨a, xs, rfl, ex_l e3.le s, fun p hp => kk p _ _ B3 (fresh_back e13.ex hp) (e13.trans (Ext.hide e3.le hp)) upd_same (fresh_back e3.le hp) (dps_cut rx lo hi)⟩
theorem en_cat (ha : Ev K ta G (.liv ds)) (hb : Ev K tb G (.liv es)) (hz : ds.length + es.length ≤ 100000) : EvN K (tOp rCat ta tb) G (ds ++ es) := fun σ B H e eb Q kk => ha σ B H e eb _ fun v H1 B1 e1 r => hb σ B1 H1 (e.mono e1.bb) e1.le _ fun u H2 B2 e2 r2 => by
  obtain ⟨p, xs, z, s, rx⟩ := r
  cases z
  obtain ⟨q, ys, z, s2, ry⟩ := r2
  cases z
  exact ⟨p, q, xs, ys, rfl, rfl, e2.ex p _ (e1.le p _ s), e2.le q _ s2, by rw [dps_len rx, dps_len ry]; exact sz_of hz, fun l hl =>
    kk l _ _ B2 (fresh_back (e1.trans e2).ex hl) ((e1.trans e2).trans (Ext.hide e2.le hl)) upd_same (fresh_back e2.le hl) (dps_app (dps_mono e2.bb ds rx) ry)⟩
end
end Wk
-- W4
namespace Wk
open PySem PySem.Spec PyProof.Rows L2 Evl

/-- J walks n turns wherever B1 is seen; the target takes what is known of the slots to up i -/
structure TurnsOk (K : PySem.W.Frag) (J : It) (g : TG) (js : List Nat) (B1 : Hp) (n : Nat) (up : Nat → Gam → Gam) : Prop where
  go : ∀ i H, i < n → Ex B1 H → J.go i H
  stop : ∀ H, Ex B1 H → J.stop n H
  yld : ∀ i x B H H', i < n → Ex B1 B → Ex B H → J.yld i H x H' → Ext B H B H' ∧ ∀ σ G, Env K B σ G → ∀ Q : L2.St → Hp → Prop, (∀ σ2, Env K B σ2 (up i G) → (∀ vs : List Nat, (∀ j ∈ js, j ∈ vs) → L2.wipe σ2 vs = L2.wipe σ vs) → Q σ2 H') → g x σ H' Q
/-- the walk that the reading comes to -/
def EvW (K : PySem.W.Frag) (wi : TI) (g : TG) (js : List Nat) (G : Gam) (n : Nat) (up : Nat → Gam → Gam) : Prop :=
  ∀ σ B H, Env K B σ G → Ex B H → ∀ R : It → Hp → Prop, (∀ J H1 B1, Ext B H B1 H1 → TurnsOk K J g js B1 n up → R J H1) → wi σ H R

theorem wipe_len (σ : L2.St) (vs : List Nat) : (L2.wipe σ vs).length = σ.length := wipe_length σ vs
theorem wipe_get {σ : L2.St} : ∀ {vs : List Nat} {k : Nat}, (L2.wipe σ vs)[k]? = if k ∈ vs then (if k < σ.length then some none else none) else σ[k]?
  | [], k => by simp [L2.wipe]
  | v :: vs, k => by
    show ((L2.wipe σ vs).set v none)[k]? = _
    by_cases h : v = k
    · subst h
      rw [if_pos List.mem_cons_self]
      by_cases hl : v < σ.length
      · rw [if_pos hl, List.getElem?_set_self (by rw [wipe_len]; exact hl)]
      · rw [if_neg hl, List.getElem?_eq_none (by rw [List.length_set, wipe_len]; omega)]
    · rw [List.getElem?_set_ne h, wipe_get (vs := vs)]
      by_cases hk : k ∈ vs
      · rw [if_pos hk, if_pos (List.mem_cons_of_mem _ hk)]
      · rw [if_neg hk, if_neg (fun z => (List.mem_cons.mp z).elim (fun q => h q.symm) hk)]
theorem wipe_set {σ : L2.St} {j : Nat} {x : Option V} {vs : List Nat} (h : j ∈ vs) : L2.wipe (σ.set j x) vs = L2.wipe σ vs := by
  apply List.ext_getElem?
  intro k
  rw [wipe_get, wipe_get, List.length_set]
  by_cases hk : k ∈ vs
  · rw [if_pos hk, if_pos hk]
  · rw [if_neg hk, if_neg hk, List.getElem?_set_ne (fun z => hk (by rw [← z]; exact h))]
theorem wipe_wipe {σ : L2.St} {vs : List Nat} : L2.wipe (L2.wipe σ vs) vs = L2.wipe σ vs := by
  apply List.ext_getElem?
  intro k
  rw [wipe_get, wipe_get, wipe_len]
  by_cases hk : k ∈ vs
  · rw [if_pos hk, if_pos hk]
  · rw [if_neg hk, if_neg hk]

section
variable {K : PySem.W.Frag} {G : Gam} {te ta tl : TE} {tt : TT} {g : TG} {wi : TI} {js vs : List Nat} {n : Nat} {up : Nat → Gam → Gam} {d : D} {ds es : List D} {j i : Nat}
theorem name_turn {B H : Hp} {x : V} {d : D} (r : Dp K B x d) : ∀ σ G, Env K B σ G → ∀ Q : L2.St → Hp → Prop, (∀ σ2, Env K B σ2 (G.set j (.dat d)) → (∀ vs : List Nat, (∀ i ∈ [j], i ∈ vs) → L2.wipe σ2 vs = L2.wipe σ vs) → Q σ2 H) → gName j x σ H Q :=
  fun σ G e Q k => k _ (e.set (ok_dat r)) fun vs h => wipe_set (h j List.mem_cons_self)
/-- range(n) -/
theorem w_rng1 {x : Int} {ta : TA} (h : EvA K ta G [.int x]) (hx : 0 ≤ x ∧ x ≤ 100000) : EvW K (iRng1 ta) (gName j) [j] G x.toNat (fun i G => G.set j (.dat (.int (i : Int)))) := fun σ B H e eb R k =>
  h σ B H e eb _ fun vs H1 B1 e1 r => by
    obtain ⟨v, rfl, r1⟩ := dps1 r
    refine ⟨x, by rw [dp_int r1], by omega, by omega, k _ H1 B1 e1 ⟨fun i H hi _ => hi, fun H _ => Nat.le_refl _, fun i y B H H' hi _ eb yy => ?_⟩⟩
    obtain ⟨rfl, rfl⟩ := yy
    exact ⟨Ext.refl eb, name_turn (by rw [Int.zero_add]; exact .int _)⟩
/-- range(a, b) -/
theorem w_rng2 {x y : Int} {ta : TA} (h : EvA K ta G [.int x, .int y]) (hx : 0 ≤ x ∧ x ≤ 100000 ∧ -100000 ≤ y ∧ y ≤ 100000) : EvW K (iRng2 ta) (gName j) [j] G (y - x).toNat (fun i G => G.set j (.dat (.int (x + (i : Int))))) := fun σ B H e eb R k =>
  h σ B H e eb _ fun vs H1 B1 e1 r => by
    obtain ⟨v, u, rfl, r1, r2⟩ := dps2 r
    refine ⟨x, y, by rw [dp_int r1, dp_int r2], ⟨by omega, by omega, by omega, by omega⟩, k _ H1 B1 e1 ⟨fun i H hi _ => hi, fun H _ => Nat.le_refl _, fun i y B H H' hi _ eb yy => ?_⟩⟩
    obtain ⟨rfl, rfl⟩ := yy
    exact ⟨Ext.refl eb, name_turn (.int _)⟩
/-- over a list or tuple -/
theorem w_sq {k : Bool} {item : Nat → D} (h : ED K tl G (sqD k ds)) (hi : ∀ i, i < ds.length → ds[i]? = some (item i)) : EvW K (iSq K tl) (gName j) [j] G ds.length (fun i G => G.set j (.dat (item i))) := fun σ B H e eb R kk => h σ B H e eb _ fun v H1 B1 e1 r => by
  obtain ⟨p, xs, rfl, s, rx⟩ := dp_sq (dat_ok r)
  have el := dps_len rx
  refine ⟨p, rfl, ?_⟩
  cases k with
  | true =>
    refine .inl ⟨⟨xs, ex_l e1.le s⟩, kk _ H1 B1 e1 ⟨fun i H h e => ⟨xs, xs[i], ex_l e s, by simp [el, h]⟩, fun H e => ⟨xs, ex_l e s, by omega⟩, fun i x B H H' h e eb yy => ?_⟩⟩
    obtain ⟨rfl, q⟩ := yy
    obtain ⟨d, e1, rd⟩ := dps_get rx (q xs (ex_l (e.trans eb) s))
    rw [hi i h] at e1
    cases e1
    exact ⟨Ext.refl eb, name_turn (dp_mono e _ rd)⟩
  | false =>
    refine .inr ⟨⟨xs, ex_t e1.le s⟩, kk _ H1 B1 e1 ⟨fun i H h e => ⟨xs, xs[i], ex_t e s, by simp [el, h]⟩, fun H e => ⟨xs, ex_t e s, by omega⟩, fun i x B H H' h e eb yy => ?_⟩⟩
    obtain ⟨rfl, q⟩ := yy
    obtain ⟨d, e1, rd⟩ := dps_get rx (q xs (ex_t (e.trans eb) s))
    rw [hi i h] at e1
    cases e1
    exact ⟨Ext.refl eb, name_turn (dp_mono e _ rd)⟩
abbrev gPair (K : PySem.W.Frag) (j1 j2 : Nat) : TG := gTup K 2 (gCons (gName j1) (gCons (gName j2) gNil))
theorem pair_target {B H : Hp} {T : Addr} {x y : V} {a b : D} {j1 j2 : Nat} (s : SqT K H T [x, y]) (r1 : Dp K B x a) (r2 : Dp K B y b) : ∀ σ G, Env K B σ G → ∀ Q : L2.St → Hp → Prop,
    (∀ σ2, Env K B σ2 ((G.set j1 (.dat a)).set j2 (.dat b)) → (∀ vs : List Nat, (∀ i ∈ [j1, j2], i ∈ vs) → L2.wipe σ2 vs = L2.wipe σ vs) → Q σ2 H) → gPair K j1 j2 (.ref T) σ H Q :=
  fun σ G e Q k => ⟨T, [x, y], rfl, s, rfl, x, [y], rfl, y, [], rfl, rfl, k _ ((e.set (ok_dat r1)).set (ok_dat r2)) fun vs h => by rw [wipe_set (h j2 (by simp)), wipe_set (h j1 (by simp))]⟩
theorem w_enum {k : Bool} {ta : TA} {item : Nat → D} {j1 j2 : Nat} (h : EvA K ta G [sqD k ds]) (hi : ∀ i, i < ds.length → ds[i]? = some (item i)) : EvW K (iEnumB K ta) (gPair K j1 j2) [j1, j2] G ds.length (fun i G => (G.set j1 (.dat (.int (i : Int)))).set j2 (.dat (item i))) := fun σ B H e eb R kk => h σ B H e eb _ fun vs H1 B1 e1 r => by
  obtain ⟨v, rfl, ra⟩ := dps1 r
  obtain ⟨p, xs, rfl, s, rx⟩ := dp_sq ra
  have el := dps_len rx
  refine ⟨k, p, xs, rfl, sqB_mono e1.le s, kk _ H1 B1 e1 ⟨fun i H h e => ⟨sqB_mono e s, by omega⟩, fun H e => ⟨sqB_mono e s, by omega⟩, fun i x B H H' h e eb yy => ?_⟩⟩
  obtain ⟨T, y, rfl, fr, rfl, q⟩ := yy
  obtain ⟨d, e1, rd⟩ := dps_get rx q
  rw [hi i h] at e1
  cases e1
  exact ⟨Ext.hide eb fr, pair_target (st_of upd_same) (.int _) (dp_mono e _ rd)⟩
theorem w_zip {k1 k2 : Bool} {ta : TA} {it1 it2 : Nat → D} {j1 j2 : Nat} (h : EvA K ta G [sqD k1 ds, sqD k2 es]) (h1 : ∀ i, i < ds.length → ds[i]? = some (it1 i)) (h2 : ∀ i, i < es.length → es[i]? = some (it2 i)) :
    EvW K (iZipB K ta) (gPair K j1 j2) [j1, j2] G (min ds.length es.length) (fun i G => (G.set j1 (.dat (it1 i))).set j2 (.dat (it2 i))) := fun σ B H e eb R kk => h σ B H e eb _ fun vs H1 B1 e1 r => by
  obtain ⟨v, u, rfl, ra, rb⟩ := dps2 r
  obtain ⟨p, xs, rfl, s, rx⟩ := dp_sq ra
  obtain ⟨q, ys, rfl, s2, ry⟩ := dp_sq rb
  have el := dps_len rx
  have el2 := dps_len ry
  refine ⟨k1, k2, p, q, xs, ys, rfl, sqB_mono e1.le s, sqB_mono e1.le s2, kk _ H1 B1 e1 ⟨fun i H h e => ⟨sqB_mono e s, sqB_mono e s2, by omega⟩, fun H e => ⟨sqB_mono e s, sqB_mono e s2, by omega⟩, fun i x B H H' h e eb yy => ?_⟩⟩
  obtain ⟨T, y, y2, rfl, fr, rfl, q, q2⟩ := yy
  obtain ⟨d, e1, rd⟩ := dps_get rx q
  obtain ⟨d2, e2, rd2⟩ := dps_get ry q2
  rw [h1 i (by omega)] at e1
  rw [h2 i (by omega)] at e2
  cases e1
  cases e2
  exact ⟨Ext.hide eb fr, pair_target (st_of upd_same) (dp_mono e _ rd) (dp_mono e _ rd2)⟩

def picked (n : Nat) (p : Nat → Bool) (f : Nat → D) : List D := ((List.range n).filter p).map f
theorem picked_yes {n : Nat} {p : Nat → Bool} {f : Nat → D} (h : p n = true) : picked (n + 1) p f = picked n p f ++ [f n] := by
  unfold picked
  rw [List.range_succ, List.filter_append, List.map_append, List.filter_cons, if_pos h]
  rfl
theorem picked_no {n : Nat} {p : Nat → Bool} {f : Nat → D} (h : p n = false) : picked (n + 1) p f = picked n p f := by
  unfold picked
  rw [List.range_succ, List.filter_append, List.map_append, List.filter_cons, if_neg (by rw [h]; decide)]
  simp
theorem picked_len (n : Nat) (p : Nat → Bool) (f : Nat → D) : (picked n p f).length ≤ n := by
  unfold picked
  rw [List.length_map]
  have h := List.length_filter_le p (List.range n)
  rw [List.length_range] at h
  exact h
theorem picked_all (n : Nat) (f : Nat → D) : picked n (fun _ => true) f = (List.range n).map f := by
  unfold picked
  rw [List.filter_eq_self.mpr (fun _ _ => rfl)]
theorem Ext.mut {B H B' H' : Hp} {p : Addr} {o : HO} (e : Ext B H B' H') (n : H p = none) (n' : B' p = none) : Ext B H B' (upd H' p o) :=
  ⟨Ex.mut e.ex n, e.bb, fun a u z => by rw [upd_ne (ne_of_none z n')]; exact e.le a u z, e.hid⟩
/-- the list so far stands at L, unseen -/
structure Sofar (K : PySem.W.Frag) (B1 H1 : Hp) (L : Addr) (ds : List D) (B H : Hp) : Prop where
  ext : Ext B1 H1 B H
  un : B L = none
  at_ : ∃ xs, H L = some (.lst xs) ∧ DpAll K B xs ds
theorem en_lc {p : Nat → Bool} {f : Nat → D} (w : EvW K wi g js G n up) (hn : n ≤ 100000) (hjs : ∀ j ∈ js, j ∈ vs) (ht : ∀ i, i < n → EvT K tt (up i (wipeG G vs)) (p i)) (he : ∀ i, i < n → p i = true → ED K te (up i (wipeG G vs)) (f i)) :
    EvN K (tLc wi g tt te vs) G (picked n p f) := fun σ B H e eb Q k => w σ B H e eb _ fun J H1 B1 e1 T L hL => by
  have eW : ∀ {B' : Hp}, Ex B1 B' → Env K B' (L2.wipe σ vs) (wipeG G vs) := fun h => ((e.mono e1.bb).mono h).wipe vs
  refine ⟨fun i m H' => m = n - i ∧ i ≤ n ∧ ∃ B', Sofar K B1 H1 L (picked i p f) B' H', ⟨n, by simp, Nat.zero_le _, B1, Ext.hide e1.le hL, fresh_back e1.le hL, [], upd_same, .nil⟩, fun i m H' z => ?_⟩
  obtain ⟨rfl, hi, B', S⟩ := z
  by_cases hlt : i < n
  · refine .inr ⟨T.go i H' hlt (S.ext.bb.trans S.ext.le), fun H2 => ∃ B2, Sofar K B1 H1 L (picked (i + 1) p f) B2 H2, fun H2 z => ⟨n - (i + 1), by omega, rfl, hlt, z⟩, fun x H2 y => ?_⟩
    obtain ⟨x2, tk⟩ := T.yld i x B' H' H2 hlt S.ext.bb S.ext.le y
    refine tk _ _ (eW S.ext.bb) _ fun σ2 e2 wp => ⟨(wp vs hjs).trans wipe_wipe, ht i hlt σ2 B' H2 e2 x2.le _ fun H3 B3 x3 => ?_⟩
    have x13 := S.ext.trans (x2.trans x3)
    obtain ⟨xs, hxs, rx⟩ := S.at_
    have h3 : H3 L = some (.lst xs) := x3.ex L _ (x2.ex L _ hxs)
    have n2 : Mu (H2 L) := by rw [x2.ex L _ hxs]; trivial
    have u3 : B3 L = none := x3.hid L n2 S.un
    cases hp : p i with
    | false =>
      refine (if_neg Bool.false_ne_true).mpr ⟨B3, x13, u3, xs, h3, ?_⟩
      rw [picked_no hp]
      exact dps_mono x3.bb _ rx
    | true =>
      refine (if_pos rfl).mpr (he i hlt hp σ2 B3 H3 (e2.mono x3.bb) x3.le _ fun v H4 B4 x4 r => ?_)
      have u4 : B4 L = none := x4.hid L (by rw [h3]; trivial) u3
      have len : xs.length < sizeLine := by
        rw [dps_len rx]
        have := picked_len i p f
        exact sz_lt (by omega)
      refine ⟨xs, x4.ex L _ h3, len, B4, (x13.trans x4).mut hL u4, u4, _, upd_same, ?_⟩
      rw [picked_yes hp]
      exact dps_app (dps_mono (x3.bb.trans x4.bb) _ rx) (.cons (dat_ok r) .nil)
  · have ei : i = n := by omega
    subst ei
    obtain ⟨xs, hxs, rx⟩ := S.at_
    exact .inl ⟨T.stop H' (S.ext.bb.trans S.ext.le), k L xs H' B' (fresh_back e1.ex hL) (e1.trans S.ext) hxs S.un rx⟩
end
end Wk
-- W5
namespace Wk
open PySem PySem.Spec PyProof.Rows L2 Evl

section
variable {K : PySem.W.Frag} {G : Gam} {te ta tl : TE} {tt : TT} {g : TG} {wi : TI} {js vs : List Nat} {n : Nat} {up : Nat → Gam → Gam} {d : D} {ds es : List D} {i j : Nat} {t : Ent} {σ : L2.St} {B H B0 H0 : Hp} {De : Ends} {tu tw tb : TS}

/-- a def of data: what is seen of the heap at its call, its arguments; it hands back data -/
def spD (K : PySem.W.Frag) {α : Type} (enc : α → List D) (pre : α → Prop) (out : α → D) : Sp := fun vs H Q _ => ∃ (a : α) (B : Hp), Ex B H ∧ DpAll K B vs (enc a) ∧ pre a ∧ ∀ v H' B', Ext B H B' H' → Dp K B' v (out a) → Q v H'
/-- .. a new live list -/
def spN (K : PySem.W.Frag) {α : Type} (enc : α → List D) (pre : α → Prop) (out : α → List D) : Sp := fun vs H Q _ => ∃ (a : α) (B : Hp), Ex B H ∧ DpAll K B vs (enc a) ∧ pre a ∧
  ∀ p xs H' B', H p = none → Ext B H B' H' → H' p = some (.lst xs) → B' p = none → DpAll K B' xs (out a) → Q (.ref p) H'
theorem spD_v {α : Type} {enc : α → List D} {pre : α → Prop} {out : α → D} (a : α) (h : pre a) : Sv K (spD K enc pre out) (enc a) (out a) := fun vs B H eb r Q k E => ⟨a, B, eb, r, h, k⟩
theorem spN_v {α : Type} {enc : α → List D} {pre : α → Prop} {out : α → List D} (a : α) (h : pre a) : SvN K (spN K enc pre out) (enc a) (out a) := fun vs B H eb r Q k E => ⟨a, B, eb, r, h, k⟩
theorem spN_d {α : Type} {enc : α → List D} {pre : α → Prop} {out : α → List D} (a : α) (h : pre a) : Sv K (spN K enc pre out) (enc a) (.list (out a)) := fun vs B H eb r Q k E => ⟨a, B, eb, r, h, fun p xs H' B' hp ex r bp s => k _ H' _ (see hp bp ex r) (.lst (sq_of upd_same) (dps_mono (Ex.new bp) _ s))⟩
theorem env_start {N : List Str} {xs : List V} (h : DpAll K B xs ds) (hl : ds.length ≤ N.length) : Env K B (L2.start N xs) (ds.map Ent.dat ++ List.replicate (N.length - ds.length) Ent.no) := by
  have el := dps_len h
  refine ⟨by unfold L2.start; simp [el], fun i => ?_⟩
  unfold L2.start
  by_cases hi : i < ds.length
  · have hx : i < xs.length := by omega
    obtain ⟨v, e, r⟩ := dps_get' h (List.getElem?_eq_getElem hi)
    have e1 : (ds.map Ent.dat ++ List.replicate (N.length - ds.length) Ent.no).getD i .no = .dat ds[i] := by
      rw [List.getD_eq_getElem?_getD, List.getElem?_append_left (by simpa using hi), List.getElem?_map, List.getElem?_eq_getElem hi]; rfl
    rw [e1, List.getElem?_append_left (by simpa using hx), List.getElem?_map, e]
    exact ok_dat r
  · have e1 : (ds.map Ent.dat ++ List.replicate (N.length - ds.length) Ent.no).getD i .no = .no := by
      rw [List.getD_eq_getElem?_getD, List.getElem?_append_right (by simpa using hi), List.getElem?_replicate]
      split <;> rfl
    rw [e1]
    exact trivial

theorem s_asg (h : Ev K te G t) (e : Env K B σ G) (eb : Ex B H) (k : ∀ σ' H' B', Ext B H B' H' → Env K B' σ' (G.set i t) → De.nx σ' H') : tAsg te (gName i) De σ H :=
  h σ B H e eb _ fun v H' B' x r => k _ H' B' x ((e.mono x.bb).set r)
/-- a new list of one's own -/
theorem s_asgN (h : EvN K te G ds) (e : Env K B σ G) (eb : Ex B H) (k : ∀ p xs σ' H' B', H p = none → Ext B H B' H' → H' p = some (.lst xs) → B' p = none → DpAll K B' xs ds → Env K B' σ' (G.set i (.val (.ref p))) → De.nx σ' H') : tAsg te (gName i) De σ H :=
  h σ B H e eb _ fun p xs H' B' hp x r bp s => k p xs _ H' B' hp x r bp s ((e.mono x.bb).set rfl)
theorem s_ret (h : ED K te G d) (e : Env K B σ G) (eb : Ex B H) (k : ∀ v H' B', Ext B H B' H' → Dp K B' v d → De.rt v H') : tRet te De σ H :=
  h σ B H e eb _ fun v H' B' x r => k v H' B' x (dat_ok r)
theorem s_retN (h : EvN K te G ds) (e : Env K B σ G) (eb : Ex B H) (k : ∀ p xs H' B', H p = none → Ext B H B' H' → H' p = some (.lst xs) → B' p = none → DpAll K B' xs ds → De.rt (.ref p) H') : tRet te De σ H := h σ B H e eb _ k
theorem s_if {b : Bool} (h : EvT K tt G b) (e : Env K B σ G) (eb : Ex B H) (h1 : b = true → ∀ H' B', Ext B H B' H' → Env K B' σ G → tu De σ H') (h2 : b = false → ∀ H' B', Ext B H B' H' → Env K B' σ G → tw De σ H') : tIfS tt tu tw De σ H :=
  h σ B H e eb _ fun H' B' x => by
    cases b with
    | true => exact h1 rfl H' B' x (e.mono x.bb)
    | false => exact h2 rfl H' B' x (e.mono x.bb)
theorem s_drop (h : ED K te G d) (e : Env K B σ G) (eb : Ex B H) (k : ∀ H' B', Ext B H B' H' → Env K B' σ G → De.nx σ H') : tDrop te De σ H := h σ B H e eb _ fun v H' B' x r => k H' B' x (e.mono x.bb)
theorem s_par {ti tj : D} (h : EvA K (tCons ta (tCons te tNil)) G [ti, tj]) (e : Env K B σ G) (eb : Ex B H) (k : ∀ σ' H' B', Ext B H B' H' → Env K B' σ' ((G.set i (.dat ti)).set j (.dat tj)) → De.nx σ' H') : tPar i j (tCons ta (tCons te tNil)) De σ H :=
  h σ B H e eb _ fun vs H' B' x r => by
    obtain ⟨v, u, rfl, r1, r2⟩ := dps2 r
    exact ⟨v, u, rfl, k _ H' B' x (((e.mono x.bb).set (ok_dat r1)).set (ok_dat r2))⟩
theorem s_aug {f : Int → Int → Int} {a b : Int} (h0 : G[i]? = some (.dat (.int a))) (h : ED K te G (.int b)) (e : Env K B σ G) (eb : Ex B H) (k : ∀ σ' H' B', Ext B H B' H' → Env K B' σ' (G.set i (.dat (.int (f a b)))) → De.nx σ' H') : tAug i te (ipI f) De σ H := by
  obtain ⟨v, z, r⟩ := env_dat e h0
  refine ⟨v, z, h σ B H e eb _ fun u H' B' x r2 => ⟨a, b, dp_int r, dp_int (dat_ok r2), k _ H' B' x ((e.mono x.bb).set (ok_dat (.int _)))⟩⟩
/-- own.append(e): the list at p is not seen; it stands since the entry -/
theorem s_app {p : Addr} {xs : List V} (hi : G[i]? = some (.val (.ref p))) (h : ED K te G d) (e : Env K B σ G) (X : Ext B0 H0 B H) (n0 : H0 p = none) (bp : B p = none) (hp : H p = some (.lst xs)) (r : DpAll K B xs ds) (hz : ds.length < 100000)
    (k : ∀ y H' B', Ext B0 H0 B' H' → Ex B B' → (∀ a, a ≠ p → H a ≠ none → H' a = H a) → (∀ a, Mu (H a) → B a = none → B' a = none) → H' p = some (.lst (xs ++ [y])) → B' p = none → DpAll K B' (xs ++ [y]) (ds ++ [d]) → Env K B' σ G → De.nx σ H') :
    tDrop (tBM K "list" rAppend (tVar i) (tCons te tNil)) De σ H := by
  refine ⟨.ref p, env_dat e hi, .inl ⟨rfl, xs, sq_of hp⟩, h σ B H e X.le _ fun y H1 B1 x r1 => ⟨p, xs, y, rfl, rfl, x.ex p _ hp, by rw [dps_len r]; exact sz_lt hz, ?_⟩⟩
  have u1 : B1 p = none := x.hid p (by rw [hp]; trivial) bp
  exact k y _ B1 ((X.trans x).mut n0 u1) x.bb (fun a na ha => by
    rw [upd_ne na]
    cases c : H a with
    | none => exact absurd c ha
    | some o => exact x.ex a o c) x.hid upd_same u1 (dps_app (dps_mono x.bb _ r) (.cons (dat_ok r1) .nil)) (e.mono x.bb)
/-- own[i] = e -/
theorem s_setL {p : Addr} {xs : List V} {m : Nat} {z : Int} {to ti : TE} (ho : Ev K to G (.val (.ref p))) (hi : ED K ti G (.int z)) (ez : z = (m : Int)) (h : ED K te G d) (e : Env K B σ G) (X : Ext B0 H0 B H) (n0 : H0 p = none) (bp : B p = none) (hp : H p = some (.lst xs)) (r : DpAll K B xs ds) (hm : m < ds.length)
    (k : ∀ y H' B', Ext B0 H0 B' H' → Ex B B' → (∀ a, a ≠ p → H a ≠ none → H' a = H a) → (∀ a, Mu (H a) → B a = none → B' a = none) → H' p = some (.lst (xs.set m y)) → B' p = none → DpAll K B' (xs.set m y) (ds.set m d) → Env K B' σ G → De.nx σ H') :
    tAsg te (gSub to ti rSetL) De σ H := h σ B H e X.le _ fun y H1 B1 x1 r1 => ho σ B1 H1 (e.mono x1.bb) x1.le _ fun v H2 B2 x2 rv => hi σ B2 H2 (e.mono (x1.bb.trans x2.bb)) x2.le _ fun w H3 B3 x3 rw' => by
  cases (show some (some v) = some (some (V.ref p)) from rv)
  have x := (x1.trans x2).trans x3
  have u1 : B3 p = none := x.hid p (by rw [hp]; trivial) bp
  have hl := dps_len r
  refine ⟨p, xs, z, m, rfl, dp_int (dat_ok rw'), x.ex p _ hp, by rw [ez]; exact ixN_nat (by omega), ?_⟩
  exact k y _ B3 ((X.trans x).mut n0 u1) x.bb (fun a na ha => by
    rw [upd_ne na]
    cases c : H a with
    | none => exact absurd c ha
    | some o => exact x.ex a o c) x.hid upd_same u1 (dps_set (dp_mono (x2.bb.trans x3.bb) _ (dat_ok r1)) m (dps_mono x.bb _ r)) (e.mono x.bb)
/-- own list is handed back -/
theorem s_retOwn {p : Addr} {xs : List V} (hi : G[i]? = some (.val (.ref p))) (e : Env K B σ G) (k : De.rt (.ref p) H) : tRet (tVar i) De σ H := ⟨.ref p, env_dat e hi, k⟩

/-- for: Gi i, what is known of the slots ahead of turn i; Φ, what else -/
theorem s_for (w : EvW K wi g js G n up) (e : Env K B σ G) (X : Ext B0 H0 B H) (Gi : Nat → Gam) (Φ : Hp → Nat → Hp → Hp → Prop) (h0 : ∀ B1 H1, Ext B H B1 H1 → Gle (Gi 0) G ∧ Φ B1 0 B1 H1)
    (hs : ∀ B1 i σ2 B' H' H'', i < n → Ext B0 H0 B' H' → Ex B1 B' → Φ B1 i B' H' → Ext B' H' B' H'' → Env K B' σ2 (up i (Gi i)) →
      tb { De with nx := fun σ3 H3 => ∃ B3, Env K B3 σ3 (Gi (i + 1)) ∧ Ext B0 H0 B3 H3 ∧ Ex B1 B3 ∧ Φ B1 (i + 1) B3 H3, ct := fun σ3 H3 => ∃ B3, Env K B3 σ3 (Gi (i + 1)) ∧ Ext B0 H0 B3 H3 ∧ Ex B1 B3 ∧ Φ B1 (i + 1) B3 H3, bk := De.nx } σ2 H'')
    (hd : ∀ B1 σ' B' H', Env K B' σ' (Gi n) → Ext B0 H0 B' H' → Φ B1 n B' H' → De.nx σ' H') : tFor wi g tb De σ H :=
  w σ B H e X.le _ fun J H1 B1 x1 T => ⟨fun i m σ' H' => m = n - i ∧ i ≤ n ∧ ∃ B', Env K B' σ' (Gi i) ∧ Ext B0 H0 B' H' ∧ Ex B1 B' ∧ Φ B1 i B' H',
    ⟨n, by simp, Nat.zero_le _, B1, (e.mono x1.bb).le (h0 B1 H1 x1).1, X.trans x1, Ex.refl B1, (h0 B1 H1 x1).2⟩, fun i m σ' H' z => by
    obtain ⟨rfl, hi, B', e', X', b', φ⟩ := z
    by_cases hlt : i < n
    · refine .inr ⟨T.go i H' hlt (b'.trans X'.le), fun σ3 H3 => ∃ B3, Env K B3 σ3 (Gi (i + 1)) ∧ Ext B0 H0 B3 H3 ∧ Ex B1 B3 ∧ Φ B1 (i + 1) B3 H3, fun σ3 H3 z => ⟨n - (i + 1), by omega, rfl, hlt, z⟩, fun x H2 y => ?_⟩
      obtain ⟨x2, tk⟩ := T.yld i x B' H' H2 hlt b' X'.le y
      exact tk _ _ e' _ fun σ2 e2 _ => hs B1 i σ2 B' H' H2 hlt X' b' φ x2 e2
    · have ei : i = n := by omega
      subst ei
      exact .inl ⟨T.stop H' (b'.trans X'.le), hd B1 σ' B' H' e' X' φ⟩⟩
/-- while, over data: Gi s, what is known of the slots in the state s -/
theorem s_while {S : Type} (Gi : S → Gam) (μ : S → Nat) (s0 : S) (e : Env K B σ (Gi s0)) (X : Ext B0 H0 B H)
    (hs : ∀ s, ∃ b, EvT K tt (Gi s) b ∧ (b = true → ∃ s', μ s' < μ s ∧ ∀ σ' B' H', Env K B' σ' (Gi s) → Ext B0 H0 B' H' → ∀ N : L2.St → Hp → Prop, (∀ σ3 H3 B3, Env K B3 σ3 (Gi s') → Ext B0 H0 B3 H3 → N σ3 H3) → tb { De with nx := N, ct := N, bk := De.nx } σ' H') ∧
      (b = false → ∀ σ' B' H', Env K B' σ' (Gi s) → Ext B0 H0 B' H' → De.nx σ' H')) : tWhile tt tb De σ H :=
  ⟨fun m σ' H' => ∃ s B', m = μ s ∧ Env K B' σ' (Gi s) ∧ Ext B0 H0 B' H', ⟨_, s0, B, rfl, e, X⟩, fun m σ' H' z => by
    obtain ⟨s, B', rfl, e', X'⟩ := z
    obtain ⟨b, hb, h1, h2⟩ := hs s
    refine hb σ' B' H' e' X'.le _ fun H1 B1 x => ?_
    cases b with
    | true =>
      obtain ⟨s', lt, run⟩ := h1 rfl
      exact ⟨fun σ3 H3 => ∃ B3, Env K B3 σ3 (Gi s') ∧ Ext B0 H0 B3 H3, fun σ3 H3 z => ⟨μ s', lt, s', z.choose, rfl, z.choose_spec⟩, run σ' B1 H1 (e'.mono x.bb) (X'.trans x) _ fun σ3 H3 B3 e3 X3 => ⟨B3, e3, X3⟩⟩
    | false => exact h2 rfl σ' B1 H1 (e'.mono x.bb) (X'.trans x)⟩
end
end Wk
-- R5
namespace Wk
open PySem PySem.Spec PyProof.Rows L2 Evl
open Sem (wp)
def CDivG (_ j : Int) : Prop := j ≠ 0 ∧ j.natAbs.log2 < 9000
section
variable {X : Cx}
theorem op_fdivG : OpR X (binaryOp .FloorDiv) (rI CDivG fun i j => .int (i.fdiv j)) := opI fun _ _ _ _ _ _ _ hc q => floordiv_int hc.1 q (.inl (PyProof.noPylong_of_log2 hc.2))
def rGetL (K : PySem.W.Frag) : V → V → Hp → VK → Prop := fun x y H Q => ∃ (p : Addr) (xs : List V) (n : Nat) (v : V), x = .ref p ∧ y = .int (n : Int) ∧ SqL K H p xs ∧ n < 2 ^ 62 ∧ xs[n]? = some v ∧ Q v H
theorem get_listN : PGet X (rGetL X.K) := by
  intro pins s σ H o i ov iv Q I r1 r2 h
  obtain ⟨p, xs, n, v, rfl, rfl, hl, hn, hx, q⟩ := h
  cases r1
  obtain ⟨t, rfl⟩ := r2
  obtain ⟨its, r, pl, hz⟩ := I.list hl
  obtain ⟨u, eu, ru⟩ := r.get hx
  exact wpAny_getItem_list pl.isList (by omega) (by omega) (by simpa using eu) ⟨v, H, I, ru, q⟩
end
theorem tuple_mul1 (l : Addr) (items : Array Value) (n : Nat) (dd : Option Addr) (sl : Array (Option Value)) (u : Tok) :
    Meets (Builtin.«tuple.__mul__» ⟨[.ref l, .int 1 u], []⟩) (fun _ R s => s.heap.get? l = some { cls := .type "tuple", dict := dd, data := .seq items n, slots := sl } ∧ R (.ok (.ret (Value.ref l))) s) :=
  .of_wp fun prog w A R s h => by
    obtain ⟨hp, g, d, tk, os⟩ := s
    obtain ⟨hl, h⟩ := h
    have f1 := AutoSeq1.idx_int
    have c1 : (items.isEmpty || (1 : Int) == 1) = true := by simp
    wp_walk using wpAny_loadPart' hl
    repeat (first
      | (refine wpAny_ite_true (decide_eq_true c1) ?_; wp_walk using wpAny_loadPart' hl)
      | (refine wpAny_ite_false (by decide) ?_; wp_walk using wpAny_loadPart' hl))
    exact ⟨_, rfl, h⟩
def rRep1 (K : PySem.W.Frag) : R2 := fun x y H Q => ∃ l xs, x = .ref l ∧ y = .int 1 ∧ SqT K H l xs ∧ Q (.ref l) H
section
variable {X : Cx}
theorem op_rep1 : OpR X (binaryOp .Mult) (rRep1 X.K) := by
  intro pins s σ H x y v u Q I rx ry h
  obtain ⟨l, xs, rfl, rfl, hT, q⟩ := h
  cases rx
  obtain ⟨t, rfl⟩ := ry
  obtain ⟨its, r, ⟨⟨cls, dd, data, sl⟩, ho, hc, n, hd⟩, hs⟩ := I.tuple hT
  simp only at hc hd
  subst hc hd
  refine wpAny_binaryOp_repeat_ref (T := "tuple") (U := "int") (by decide) ⟨_, ho, rfl⟩ (fun s' => typeIs_int s' 1 t) noFill_tuple_mul F.fills_int_mul F.slot_int_rmul repeat_tuple F.slot_int_index.lookup
    (call_meets F.slot_int_rmul (typeIs_int s 1 t) F.entry_int_rmul (F.args_int_rmul_2 _ _) (int_rmul_tuple 1 t l its.toArray n dd sl)
      ⟨ho, rfl, ⟨_, ho, rfl⟩, call_meets F.slot_tuple_mul ⟨_, ho, rfl⟩ F.entry_tuple_mul (F.args_tuple_mul_2 _ _) (tuple_mul1 l its.toArray n dd sl t) ⟨ho, ?_⟩⟩)
  exact ⟨.ref l, H, I, rfl, q⟩
def rRepB (K : PySem.W.Frag) : R2 := fun x y H Q => rRepT K x y H Q ∨ rRep1 K x y H Q
theorem op_repB : OpR X (binaryOp .Mult) (rRepB X.K) := fun pins s σ H x y v u Q I rx ry h => h.elim (fun h => op_repT pins s σ H x y v u Q I rx ry h) fun h => op_rep1 pins s σ H x y v u Q I rx ry h
end
end Wk
-- R6
namespace Wk
open PySem PySem.Spec PyProof.Rows L2 Evl
section
variable {P : Program} {w : World} {K : PySem.W.Frag} {mg : Str → Option Value} {base : Heap} {x qual : Str} {st : Stmt} {f : Addr} {fd : FuncData} {N ps : List Str} {k : Nat} {α : Type} {enc : α → List D} {pre : α → Prop}
theorem okD {out : α → D} (F : L2.Fun K x qual st f fd) (S : FnScope N ps (defScope st)) (hl : ∀ a, (enc a).length = ps.length) (hN : ps.length ≤ N.length)
    (body : ∀ (a : α) (cdv : Value) (A : Around) (outer : List PySem.Env) (s : Shared) (H : Hp) (σ0 : L2.St) (Q : VK) (E : XK) (B : Hp), Room k (A.deeper (envOfC qual (defScope st) s.heap.objs.size f cdv)) → pre a → Ex B H →
      Env K B σ0 ((enc a).map Ent.dat ++ List.replicate (N.length - ps.length) Ent.no) → (∀ v H' B', Ext B H B' H' → Dp K B' v (out a) → Q v H') →
      ∃ t, PSs (cxOf CX0 P w K mg base N qual (defScope st) f cdv A outer s H E).nox (defBody st) t ∧ t { nx := fun _ H' => Q .non H', rt := Q } σ0 H) : FnOk P w K mg base CX0 (k + 1) f fd ps (spD K enc pre out) := by
  refine F.ok S (fun vs H Q E h => ?_) (fun cdv A outer s H vs Q E hr h => ?_)
  · obtain ⟨a, B, eb, r, _⟩ := h
    rw [dps_len r, hl]
  · obtain ⟨a, B, eb, r, p, q⟩ := h
    have e := env_start (N := N) r (by rw [hl]; exact hN)
    rw [hl] at e
    exact body a cdv A outer s H _ Q E B hr p eb e q
theorem okN {out : α → List D} (F : L2.Fun K x qual st f fd) (S : FnScope N ps (defScope st)) (hl : ∀ a, (enc a).length = ps.length) (hN : ps.length ≤ N.length)
    (body : ∀ (a : α) (cdv : Value) (A : Around) (outer : List PySem.Env) (s : Shared) (H : Hp) (σ0 : L2.St) (Q : VK) (E : XK) (B : Hp), Room k (A.deeper (envOfC qual (defScope st) s.heap.objs.size f cdv)) → pre a → Ex B H →
      Env K B σ0 ((enc a).map Ent.dat ++ List.replicate (N.length - ps.length) Ent.no) → (∀ p xs H' B', H p = none → Ext B H B' H' → H' p = some (.lst xs) → B' p = none → DpAll K B' xs (out a) → Q (.ref p) H') →
      ∃ t, PSs (cxOf CX0 P w K mg base N qual (defScope st) f cdv A outer s H E).nox (defBody st) t ∧ t { nx := fun _ H' => Q .non H', rt := Q } σ0 H) : FnOk P w K mg base CX0 (k + 1) f fd ps (spN K enc pre out) := by
  refine F.ok S (fun vs H Q E h => ?_) (fun cdv A outer s H vs Q E hr h => ?_)
  · obtain ⟨a, B, eb, r, _⟩ := h
    rw [dps_len r, hl]
  · obtain ⟨a, B, eb, r, p, q⟩ := h
    have e := env_start (N := N) r (by rw [hl]; exact hN)
    rw [hl] at e
    exact body a cdv A outer s H _ Q E B hr p eb e q
end
end Wk
-- R7
namespace Wk
open PySem PySem.Spec PyProof.Rows L2 Evl
section
variable {K : PySem.W.Frag} {G : Gam} {te ta tl : TE} {tt : TT} {g : TG} {wi : TI} {js vs : List Nat} {n : Nat} {up : Nat → Gam → Gam} {d : D} {ds es : List D} {i j : Nat} {t u : Ent} {σ : L2.St} {B H B0 H0 : Hp} {De : Ends} {tu tw tb : TS}
theorem s_parE (h1 : Ev K ta G t) (h2 : Ev K te G u) (e : Env K B σ G) (eb : Ex B H) (k : ∀ σ' H' B', Ext B H B' H' → Env K B' σ' ((G.set i t).set j u) → De.nx σ' H') : tPar i j (tCons ta (tCons te tNil)) De σ H :=
  h1 σ B H e eb _ fun v H1 B1 x1 r1 => h2 σ B1 H1 (e.mono x1.bb) x1.le _ fun w H2 B2 x2 r2 =>
    ⟨v, w, rfl, k _ H2 B2 (x1.trans x2) (((e.mono (x1.bb.trans x2.bb)).set (r1.mono x2.bb)).set r2)⟩
theorem s_parN (h1 : Ev K ta G t) (h2 : EvN K te G ds) (e : Env K B σ G) (eb : Ex B H) (k : ∀ p xs σ' H' B', H p = none → Ext B H B' H' → H' p = some (.lst xs) → B' p = none → DpAll K B' xs ds → Env K B' σ' ((G.set i t).set j (.val (.ref p))) → De.nx σ' H') : tPar i j (tCons ta (tCons te tNil)) De σ H :=
  h1 σ B H e eb _ fun v H1 B1 x1 r1 => h2 σ B1 H1 (e.mono x1.bb) x1.le _ fun p xs H2 B2 hp x2 hx bp rx =>
    ⟨v, .ref p, rfl, k p xs _ H2 B2 (fresh_back x1.ex hp) (x1.trans x2) hx bp rx (((e.mono (x1.bb.trans x2.bb)).set (r1.mono x2.bb)).set rfl)⟩
theorem Env.re {v : V} (e : Env K B σ G) (hi : G[i]? = some (.val v)) (r : EntOk K B (some (some v)) t) : Env K B σ (G.set i t) := by
  have z := e.at_ i
  rw [List.getD_eq_getElem?_getD, hi] at z
  have z : σ[i]? = some (some v) := z
  have es : σ.set i (some v) = σ := by
    apply List.ext_getElem?
    intro k
    by_cases h : i = k
    · subst h
      have hl := (List.getElem?_eq_some_iff.mp z).1
      rw [List.getElem?_set_self hl, z]
    · rw [List.getElem?_set_ne h]
  have q := e.set (i := i) (v := v) (t := t) r
  rwa [es] at q
/-- one's own list is shown -/
theorem reveal {p : Addr} {xs : List V} (e : Env K B σ G) (X : Ext B0 H0 B H) (n0 : H0 p = none) (bp : B p = none) (hp : H p = some (.lst xs)) : Env K (upd B p (.lst xs)) σ G ∧ Ext B0 H0 (upd B p (.lst xs)) H ∧ Ex B (upd B p (.lst xs)) :=
  ⟨e.mono (Ex.new bp), see n0 bp X hp, Ex.new bp⟩
theorem dp_shown {p : Addr} {xs : List V} (bp : B p = none) (r : DpAll K B xs ds) : Dp K (upd B p (.lst xs)) (.ref p) (.list ds) := .lst (SqL.of upd_same) (dps_mono (Ex.new bp) ds r)
/-- a list of one's own stands at p: it is not seen -/
def Own (K : PySem.W.Frag) (p : Addr) (ds : List D) (B H : Hp) : Prop := B p = none ∧ ∃ xs, H p = some (.lst xs) ∧ DpAll K B xs ds
variable {p q : Addr} {B' H' : Hp}
theorem Own.ext (o : Own K p ds B H) (x : Ext B H B' H') : Own K p ds B' H' := by
  obtain ⟨a, xs, b, r⟩ := o
  exact ⟨x.hid p (by rw [b]; trivial) a, xs, x.ex p _ b, dps_mono x.bb _ r⟩
theorem Own.ne (o : Own K p ds B H) (h : H q = none) : q ≠ p := by
  rintro rfl
  obtain ⟨_, xs, b, _⟩ := o
  rw [b] at h
  cases h
theorem Own.to {xs : List V} (n : H' p = some (.lst xs)) (b : B' p = none) (r : DpAll K B' xs ds) : Own K p ds B' H' := ⟨b, xs, n, r⟩
/-- what a change at p keeps -/
structure Keep (K : PySem.W.Frag) (p : Addr) (B H B' H' : Hp) : Prop where
  bb : Ex B B'
  own : ∀ q es, q ≠ p → Own K q es B H → Own K q es B' H'
theorem Own.app (hi : G[i]? = some (.val (.ref p))) (h : ED K te G d) (e : Env K B σ G) (X : Ext B0 H0 B H) (n0 : H0 p = none) (o : Own K p ds B H) (hz : ds.length < 100000)
    (k : ∀ H' B', Ext B0 H0 B' H' → Keep K p B H B' H' → Own K p (ds ++ [d]) B' H' → Env K B' σ G → De.nx σ H') : tDrop (tBM K "list" rAppend (tVar i) (tCons te tNil)) De σ H := by
  obtain ⟨bp, xs, hp, r⟩ := o
  refine s_app hi h e X n0 bp hp r hz fun y H' B' x bb keep hid h1 b1 r1 e1 => k H' B' x ⟨bb, fun q es ne oq => ?_⟩ ⟨b1, _, h1, r1⟩ e1
  obtain ⟨bq, ys, hq, rq⟩ := oq
  have n : H q ≠ none := by rw [hq]; exact fun z => nomatch z
  exact ⟨hid q (by rw [hq]; trivial) bq, ys, by rw [keep q ne n]; exact hq, dps_mono bb _ rq⟩
theorem Own.setL {m : Nat} {z : Int} {to ti : TE} (ho : Ev K to G (.val (.ref p))) (hi : ED K ti G (.int z)) (ez : z = (m : Int)) (h : ED K te G d) (e : Env K B σ G) (X : Ext B0 H0 B H) (n0 : H0 p = none) (o : Own K p ds B H) (hm : m < ds.length)
    (k : ∀ H' B', Ext B0 H0 B' H' → Keep K p B H B' H' → Own K p (ds.set m d) B' H' → Env K B' σ G → De.nx σ H') : tAsg te (gSub to ti rSetL) De σ H := by
  obtain ⟨bp, xs, hp, r⟩ := o
  refine s_setL ho hi ez h e X n0 bp hp r hm fun y H' B' x bb keep hid h1 b1 r1 e1 => k H' B' x ⟨bb, fun q es ne oq => ?_⟩ ⟨b1, _, h1, r1⟩ e1
  obtain ⟨bq, ys, hq, rq⟩ := oq
  have n : H q ≠ none := by rw [hq]; exact fun z => nomatch z
  exact ⟨hid q (by rw [hq]; trivial) bq, ys, by rw [keep q ne n]; exact hq, dps_mono bb _ rq⟩
/-- own[m] += e, of ints -/
theorem Own.augI {m : Nat} {z a b : Int} {to ti : TE} {f : Int → Int → Int} (ho : Ev K to G (.val (.ref p))) (hi : ED K ti G (.int z)) (ez : z = (m : Int)) (hm : ds[m]? = some (.int a)) (h : ED K te G (.int b)) (e : Env K B σ G) (X : Ext B0 H0 B H) (n0 : H0 p = none) (o : Own K p ds B H) (hl : ds.length < 100000)
    (k : ∀ H' B', Ext B0 H0 B' H' → Keep K p B H B' H' → Own K p (ds.set m (.int (f a b))) B' H' → Env K B' σ G → De.nx σ H') : tAugS to ti te (rGetL K) (ipI f) rSetL De σ H := by
  obtain ⟨bp, xs, hp, r⟩ := o
  refine ho σ B H e X.le _ fun v H1 B1 x1 rv => hi σ B1 H1 (e.mono x1.bb) x1.le _ fun w H2 B2 x2 rw' => ?_
  cases (show some (some v) = some (some (V.ref p)) from rv)
  have r2 := dps_mono (x1.bb.trans x2.bb) _ r
  obtain ⟨u, hu, ru⟩ := dps_get' r2 hm
  have hp2 := (x1.trans x2).ex p _ hp
  have hml : m < ds.length := (List.getElem?_eq_some_iff.mp hm).1
  refine ⟨p, xs, m, u, rfl, by rw [dp_int (dat_ok rw'), ez], SqL.of hp2, by omega, hu, ?_⟩
  refine h σ B2 H2 (e.mono (x1.bb.trans x2.bb)) x2.le _ fun y H3 B3 x3 ry => ⟨a, b, dp_int ru, dp_int (dat_ok ry), ?_⟩
  have x := (x1.trans x2).trans x3
  have u1 : B3 p = none := x.hid p (by rw [hp]; trivial) bp
  refine ⟨p, xs, z, m, rfl, dp_int (dat_ok rw'), x.ex p _ hp, by rw [ez]; exact ixN_nat (by rw [dps_len r]; exact hml), ?_⟩
  refine k _ B3 ((X.trans x).mut n0 u1) ⟨x.bb, fun q es ne oq => ?_⟩ ⟨u1, _, upd_same, dps_set (.int _) m (dps_mono x.bb _ r)⟩ (e.mono x.bb)
  obtain ⟨bq, ys, hq, rq⟩ := oq
  exact ⟨x.hid q (by rw [hq]; trivial) bq, ys, by rw [upd_ne ne]; exact x.ex q _ hq, dps_mono x.bb _ rq⟩
/-- own list, shown: it is data from now on -/
theorem Own.show_ (o : Own K p ds B H) (e : Env K B σ G) (X : Ext B0 H0 B H) (n0 : H0 p = none) (hi : G[i]? = some (.val (.ref p))) :
    ∃ B2, Env K B2 σ (G.set i (.dat (.list ds))) ∧ Ext B0 H0 B2 H ∧ Ex B B2 ∧ ∀ q es, q ≠ p → Own K q es B H → Own K q es B2 H := by
  obtain ⟨bp, xs, hp, r⟩ := o
  obtain ⟨e2, X2, bb⟩ := reveal e X n0 bp hp
  refine ⟨_, e2.re hi (ok_dat (dp_shown bp r)), X2, bb, fun q es ne oq => ?_⟩
  obtain ⟨bq, ys, hq, rq⟩ := oq
  exact ⟨by rw [upd_ne ne]; exact bq, ys, hq, dps_mono bb _ rq⟩
end
end Wk
-- R8
namespace Wk
open PySem PySem.Spec PyProof.Rows L2 Evl
section
variable {K : PySem.W.Frag} {G : Gam} {te ta tl : TE} {ds es : List D} {i j : Nat} {σ : L2.St} {B H B0 H0 : Hp} {De : Ends} {p : Addr}
theorem Own.extend (hi : G[i]? = some (.val (.ref p))) (h : EvN K te G es) (e : Env K B σ G) (X : Ext B0 H0 B H) (n0 : H0 p = none) (o : Own K p ds B H) (hz : ds.length + es.length ≤ 100000)
    (k : ∀ H' B', Ext B0 H0 B' H' → Keep K p B H B' H' → Own K p (ds ++ es) B' H' → Env K B' σ G → De.nx σ H') : tDrop (tBM K "list" rExtend (tVar i) (tCons te tNil)) De σ H := by
  obtain ⟨bp, xs, hp, r⟩ := o
  refine ⟨.ref p, env_dat e hi, .inl ⟨rfl, xs, sq_of hp⟩, h σ B H e X.le _ fun q ys H1 B1 hq x1 h1 b1 r1 => ?_⟩
  have ne : q ≠ p := by
    rintro rfl
    rw [hp] at hq
    cases hq
  have u1 : B1 p = none := x1.hid p (by rw [hp]; trivial) bp
  refine ⟨p, q, xs, ys, rfl, rfl, x1.ex p _ hp, h1, by rw [dps_len r, dps_len r1]; exact sz_of hz, ?_⟩
  refine k _ B1 ((X.trans x1).mut n0 u1) ⟨x1.bb, fun q2 es2 ne2 oq => ?_⟩ ⟨u1, _, upd_same, dps_app (dps_mono x1.bb _ r) r1⟩ (e.mono x1.bb)
  obtain ⟨bq, zs, hq2, rq⟩ := oq
  exact ⟨x1.hid q2 (by rw [hq2]; trivial) bq, zs, by rw [upd_ne ne2]; exact x1.ex q2 _ hq2, dps_mono x1.bb _ rq⟩
theorem cut_eq {lo hi : Nat} (h0 : lo ≤ hi) (h : hi ≤ ds.length) : cutD ds (some (lo : Int)) (some (hi : Int)) = (ds.drop lo).take (hi - lo) := by
  unfold cutD
  rw [HT.sIx_nat, HT.sIx_nat, Nat.min_eq_left h, Nat.min_eq_left (by omega)]
end
end Wk
-- R9
namespace Wk
open PySem PySem.Spec PyProof.Rows L2 Evl
section
variable {K : PySem.W.Frag} {G : Gam} {te ta tl : TE} {ds es : List D} {i j : Nat} {t u : Ent} {σ : L2.St} {B H B0 H0 : Hp} {De : Ends} {p : Addr}
theorem s_tupE (h1 : Ev K ta G t) (h2 : Ev K te G u) (e : Env K B σ G) (eb : Ex B H) (k : ∀ σ' H' B', Ext B H B' H' → Env K B' σ' ((G.set i t).set j u) → De.nx σ' H') : tAsg (tTup (tCons ta (tCons te tNil))) (gPair K i j) De σ H :=
  h1 σ B H e eb _ fun v H1 B1 x1 r1 => h2 σ B1 H1 (e.mono x1.bb) x1.le _ fun w H2 B2 x2 r2 => ⟨sz_of (n := 2) (by decide), fun T hT =>
    ⟨T, [v, w], rfl, st_of upd_same, rfl, v, [w], rfl, w, [], rfl, rfl, k _ _ B2 ((x1.trans x2).trans (Ext.hide x2.le hT)) (((e.mono (x1.bb.trans x2.bb)).set (r1.mono x2.bb)).set r2)⟩⟩
theorem s_tupN (h1 : Ev K ta G t) (h2 : EvN K te G ds) (e : Env K B σ G) (eb : Ex B H) (k : ∀ p xs σ' H' B', H p = none → Ext B H B' H' → H' p = some (.lst xs) → B' p = none → DpAll K B' xs ds → Env K B' σ' ((G.set i t).set j (.val (.ref p))) → De.nx σ' H') : tAsg (tTup (tCons ta (tCons te tNil))) (gPair K i j) De σ H :=
  h1 σ B H e eb _ fun v H1 B1 x1 r1 => h2 σ B1 H1 (e.mono x1.bb) x1.le _ fun p xs H2 B2 hp x2 hx bp rx => ⟨sz_of (n := 2) (by decide), fun T hT =>
    have ne : p ≠ T := fun z => by rw [← z, hx] at hT; cases hT
    ⟨T, [v, .ref p], rfl, st_of upd_same, rfl, v, [.ref p], rfl, .ref p, [], rfl, rfl, k p xs _ _ B2 (fresh_back x1.ex hp) ((x1.trans x2).trans (Ext.hide x2.le hT)) (by rw [upd_ne ne]; exact hx) bp rx (((e.mono (x1.bb.trans x2.bb)).set (r1.mono x2.bb)).set rfl)⟩⟩
end
end Wk
-- R10
namespace Wk
open PySem PySem.Spec PyProof.Rows L2 Evl
def ipC (C : Int → Int → Prop) (f : Int → Int → Int) : TIp := fun x y H Q => ∃ i j, x = .int i ∧ y = .int j ∧ C i j ∧ Q (.int (f i j)) H
section
variable {X : Cx}
theorem ip_mulW : PIp X .Mult (ipC CMulW fun i j => i * j) := by
  intro pins s σ H x y v u Q I r1 r2 h
  obtain ⟨i, j, rfl, rfl, c, q⟩ := h
  obtain ⟨t, rfl⟩ := r1
  obtain ⟨t', rfl⟩ := r2
  exact imul_int ⟨.int _, H, I.tok _, ⟨_, rfl⟩, q⟩ c.ok
end
section
variable {K : PySem.W.Frag} {G : Gam} {te ta tl : TE} {tt : TT} {g g1 : TG} {wi wi1 : TI} {js js1 vs vs1 : List Nat} {n : Nat} {up : Nat → Gam → Gam} {d : D} {ds es : List D} {i j : Nat} {t u : Ent} {σ : L2.St} {B H B0 H0 : Hp} {De : Ends} {p : Addr}
theorem s_augC {C : Int → Int → Prop} {f : Int → Int → Int} {a b : Int} (h0 : G[i]? = some (.dat (.int a))) (h : ED K te G (.int b)) (c : C a b) (e : Env K B σ G) (eb : Ex B H) (k : ∀ σ' H' B', Ext B H B' H' → Env K B' σ' (G.set i (.dat (.int (f a b)))) → De.nx σ' H') : tAug i te (ipC C f) De σ H := by
  obtain ⟨v, z, r⟩ := env_dat e h0
  exact ⟨v, z, h σ B H e eb _ fun u H' B' x r2 => ⟨a, b, dp_int r, dp_int (dat_ok r2), c, k _ H' B' x ((e.mono x.bb).set (ok_dat (.int _)))⟩⟩
/-- the type's name -/
def typeD : D → String
  | .none => "NoneType"
  | .bool _ => "bool"
  | .int _ => "int"
  | .str _ => "str"
  | .list _ => "list"
  | .tuple _ => "tuple"
  | .dict _ => "dict"
theorem tyx_of {H : Hp} {v : V} : ∀ {d : D}, Dp K H v d → TyX K H v (.type (typeD d))
  | .none, h => by cases h; exact .base .non
  | .bool b, h => by cases h; exact .base (.bl b)
  | .int i, h => by cases h; exact .base (.int i)
  | .str x, h => by cases h; exact .base (.str x)
  | .list ds, h => by
    cases h with
    | lst s a =>
      rcases s with s | ⟨o, its, n, e, c, _⟩
      · rcases s with s | ⟨o, s⟩
        · exact .base (.lst s)
        · exact .base (.frz s)
      · exact .kList e c
  | .tuple ds, h => by
    cases h with
    | tup s a =>
      rcases s with s | ⟨o, its, n, e, c, _⟩
      · rcases s with s | ⟨o, s⟩
        · exact .base (.tup s)
        · exact .fTuple s
      · exact .kTuple e c
  | .dict _, h => by cases h
theorem ev_isi {T : String} {b : Bool} (h : ED K te G d) (k : kitB (typeD d) T = some b) : ED K (tCB (rIsi K) (tCons te (tCons (tC (.ty T)) tNil))) G (.bool b) := fun σ B H e eb Q q => h σ B H e eb _ fun v H1 B1 x1 r1 =>
  ⟨v, .ty T, _, _, b, rfl, .ty T, tyx_of (dp_mono x1.le d (dat_ok r1)), kit_ty k, q _ H1 B1 x1 (ok_dat (.bl b))⟩
/-- [e for a in .. for b in ..] -/
theorem en_lc2 {m : Nat → Nat} {up1 : Nat → Nat → Gam → Gam} {f : Nat → Nat → D} (w : EvW K wi g js G n up) (hjs : ∀ j ∈ js, j ∈ vs) (hjs1 : ∀ j ∈ js1, j ∈ vs1) (w1 : ∀ i, i < n → EvW K wi1 g1 js1 (up i (wipeG G vs)) (m i) (up1 i)) (hm : ∀ i, i < n → m i ≤ 300) (hn : n ≤ 300)
    (he : ∀ i j, i < n → j < m i → ED K te (up1 i j (wipeG (up i (wipeG G vs)) vs1)) (f i j)) : EvN K (tLc2 wi g tYes wi1 g1 tYes te vs vs1) G ((List.range n).flatMap fun i => (List.range (m i)).map (f i)) := fun σ B H e eb Q k => w σ B H e eb _ fun J H1 B1 e1 T L hL => by
  have eW : ∀ {B' : Hp}, Ex B1 B' → Env K B' (L2.wipe σ vs) (wipeG G vs) := fun h => ((e.mono e1.bb).mono h).wipe vs
  let acc : Nat → List D := fun i => (List.range i).flatMap fun i => (List.range (m i)).map (f i)
  have acc_len : ∀ i, i ≤ n → (acc i).length ≤ i * 300 := by
    intro i
    induction i with
    | zero => intro _; show ([] : List D).length ≤ _; simp
    | succ i ih =>
      intro hi
      have := ih (by omega)
      have h1 := hm i (by omega)
      show ((List.range (i + 1)).flatMap fun i => (List.range (m i)).map (f i)).length ≤ _
      rw [List.range_succ, List.flatMap_append, List.length_append]
      simp only [List.flatMap_cons, List.flatMap_nil, List.append_nil, List.length_map, List.length_range]
      have : ((List.range i).flatMap fun i => (List.range (m i)).map (f i)).length ≤ i * 300 := this
      omega
  refine ⟨fun i mm H' => mm = n - i ∧ i ≤ n ∧ ∃ B', Sofar K B1 H1 L (acc i) B' H', ⟨n, by simp, Nat.zero_le _, B1, Ext.hide e1.le hL, fresh_back e1.le hL, [], upd_same, .nil⟩, fun i mm H' z => ?_⟩
  obtain ⟨rfl, hi, B', S⟩ := z
  by_cases hlt : i < n
  · refine .inr ⟨T.go i H' hlt (S.ext.bb.trans S.ext.le), fun H2 => ∃ B2, Sofar K B1 H1 L (acc (i + 1)) B2 H2, fun H2 z => ⟨n - (i + 1), by omega, rfl, hlt, z⟩, fun x H2 y => ?_⟩
    obtain ⟨x2, tk⟩ := T.yld i x B' H' H2 hlt S.ext.bb S.ext.le y
    refine tk _ _ (eW S.ext.bb) _ fun σ2 e2 wp => ⟨(wp vs hjs).trans wipe_wipe, ?_⟩
    dsimp only [tYes]
    rw [if_pos rfl]
    refine w1 i hlt σ2 B' H2 e2 x2.le _ fun J1 H3 B3 x3 T1 => ?_
    have S3 : Sofar K B1 H1 L (acc i) B3 H3 := by
      obtain ⟨xs, hxs, rx⟩ := S.at_
      have h2 := x2.ex L _ hxs
      exact ⟨S.ext.trans (x2.trans x3), x3.hid L (by rw [h2]; trivial) S.un, xs, x3.ex L _ h2, dps_mono x3.bb _ rx⟩
    refine ⟨fun j mj H' => mj = m i - j ∧ j ≤ m i ∧ ∃ B', Ex B3 B' ∧ Sofar K B1 H1 L (acc i ++ (List.range j).map (f i)) B' H', ⟨m i, by simp, Nat.zero_le _, B3, Ex.refl B3, by simpa using S3⟩, fun j mj H4 z => ?_⟩
    obtain ⟨rfl, hj, B4, b34, S4⟩ := z
    by_cases hlj : j < m i
    · refine .inr ⟨T1.go j H4 hlj (b34.trans S4.ext.le), fun H5 => ∃ B5, Ex B3 B5 ∧ Sofar K B1 H1 L (acc i ++ (List.range (j + 1)).map (f i)) B5 H5, fun H5 z => ⟨m i - (j + 1), by omega, rfl, hlj, z⟩, fun x1 H5 y1 => ?_⟩
      obtain ⟨x5, tk1⟩ := T1.yld j x1 B4 H4 H5 hlj b34 S4.ext.le y1
      refine tk1 _ _ (((e2.mono x3.bb).mono b34).wipe vs1) _ fun σ3 e3 wp1 => ⟨(wp1 vs1 hjs1).trans wipe_wipe, ?_⟩
      dsimp only [tYes]
      rw [if_pos rfl]
      refine he i j hlt hlj σ3 B4 H5 e3 x5.le _ fun v H6 B6 x6 r6 => ?_
      obtain ⟨xs, hxs, rx⟩ := S4.at_
      have h5 := x5.ex L _ hxs
      have u6 : B6 L = none := x6.hid L (by rw [h5]; trivial) S4.un
      have len : xs.length < sizeLine := by
        rw [dps_len rx, List.length_append, List.length_map, List.length_range]
        have := acc_len i hi
        have := hm i hlt
        have : i * 300 ≤ 300 * 300 := Nat.mul_le_mul_right _ (by omega)
        exact sz_lt (by omega)
      refine ⟨xs, x6.ex L _ h5, len, B6, b34.trans x6.bb, ((S4.ext.trans x5).trans x6).mut hL u6, u6, _, upd_same, ?_⟩
      rw [List.range_succ, List.map_append, ← List.append_assoc]
      exact dps_app (dps_mono x6.bb _ rx) (.cons (dat_ok r6) .nil)
    · have ej : j = m i := by omega
      subst ej
      refine .inl ⟨T1.stop H4 (b34.trans S4.ext.le), B4, ?_⟩
      have : acc (i + 1) = acc i ++ (List.range (m i)).map (f i) := by
        show (List.range (i + 1)).flatMap _ = _
        rw [List.range_succ, List.flatMap_append]
        simp [acc]
      rw [this]
      exact S4
  · have ei : i = n := by omega
    subst ei
    obtain ⟨xs, hxs, rx⟩ := S.at_
    exact .inl ⟨T.stop H' (S.ext.bb.trans S.ext.le), k L xs H' B' (fresh_back e1.ex hL) (e1.trans S.ext) hxs S.un rx⟩
/-- chains of two comparisons of ints -/
theorem et_chain {r r' : R2} {tb tc : TE} {a b c : D} {x y : Bool} (ha : ED K ta G a) (hb : ED K tb G b) (hc : ED K tc G c) (h1 : Rv K r a b (.bool x)) (h2 : Rv K r' b c (.bool y)) : EvT K (tTest (tChain r r' ta tb tc)) G (x && y) := fun σ B H e eb Q k =>
  ha σ B H e eb _ fun u H1 B1 x1 r1 => hb σ B1 H1 (e.mono x1.bb) x1.le _ fun w H2 B2 x2 r2 => h1 u w B2 H2 x2.le (dp_mono x2.bb a (dat_ok r1)) (dat_ok r2) _ fun z H3 B3 x3 r3 => by
    refine ⟨x, dp_bool r3, ?_⟩
    cases x with
    | true => exact hc σ B3 H3 (e.mono ((x1.bb.trans x2.bb).trans x3.bb)) x3.le _ fun q H4 B4 x4 r4 => h2 w q B4 H4 x4.le (dp_mono (x3.bb.trans x4.bb) b (dat_ok r2)) (dat_ok r4) _ fun z2 H5 B5 x5 r5 => ⟨y, dp_bool r5, k H5 B5 ((((x1.trans x2).trans x3).trans x4).trans x5)⟩
    | false => exact ⟨false, rfl, k H3 B3 ((x1.trans x2).trans x3)⟩
end
end Wk
-- R11
namespace Wk
open PySem PySem.Spec PyProof.Rows L2 Evl
/-- the heap without some things -/
def hideH (H : Hp) (S : List Addr) : Hp := fun a => if a ∈ S then none else H a
section
variable {B H B' H' B0 H0 : Hp} {S : List Addr} {p q : Addr} {o o' : HO}
theorem hide_in (h : p ∈ S) : hideH H S p = none := if_pos h
theorem hide_out (h : p ∉ S) : hideH H S p = H p := if_neg h
/-- what stands at S may change: the base is the heap without it -/
theorem Ext.base (h : Ex B H) (hS : ∀ a ∈ S, B a = none) : Ext B (hideH H S) B H := ⟨fun a u z => by
  by_cases e : a ∈ S
  · rw [hide_in e] at z; cases z
  · rw [hide_out e] at z; exact z, Ex.refl B, h, fun _ _ z => z⟩
theorem Ext.over (X : Ext B0 H0 B H) (hS : ∀ a ∈ S, H0 a = none) (Y : Ext B (hideH H S) B' H') : Ext B0 H0 B' H' := ⟨fun a u z => by
  have ne : a ∉ S := fun e => by rw [hS a e] at z; cases z
  exact Y.ex a u (by rw [hide_out ne]; exact X.ex a u z), X.bb.trans Y.bb, Y.le, fun a m z => by
  have ne : a ∉ S := fun e => by rw [hS a e] at m; exact m.ne rfl
  refine Y.hid a ?_ (X.hid a m z)
  rw [hide_out ne]
  cases e : H0 a with
  | none => rw [e] at m; exact m.elim
  | some u => rw [X.ex a u e, ← e]; exact m⟩
/-- a thing of one's own -/
def OwnO (p : Addr) (o : HO) (B H : Hp) : Prop := B p = none ∧ H p = some o
theorem OwnO.ext (h : OwnO p o B H) (hm : Mu (some o)) (x : Ext B H B' H') : OwnO p o B' H' := ⟨x.hid p (by rw [h.2]; exact hm) h.1, x.ex p _ h.2⟩
theorem OwnO.over (h : OwnO p o B H) (hm : Mu (some o)) (hS : p ∉ S) (Y : Ext B (hideH H S) B' H') : OwnO p o B' H' := ⟨Y.hid p (by rw [hide_out hS, h.2]; exact hm) h.1, Y.ex p _ (by rw [hide_out hS]; exact h.2)⟩
theorem Own.over {K : PySem.W.Frag} {ds : List D} (h : Own K p ds B H) (hS : p ∉ S) (Y : Ext B (hideH H S) B' H') : Own K p ds B' H' := by
  obtain ⟨a, xs, b, r⟩ := h
  exact ⟨Y.hid p (by rw [hide_out hS, b]; trivial) a, xs, Y.ex p _ (by rw [hide_out hS]; exact b), dps_mono Y.bb _ r⟩
/-- one's own thing is written -/
theorem OwnO.put (h : OwnO p o B H) (X : Ext B0 H0 B H) (n0 : H0 p = none) : Ext B0 H0 B (upd H p o') ∧ OwnO p o' B (upd H p o') := ⟨X.mut n0 h.1, h.1, upd_same⟩
theorem OwnO.keep {u : HO} (h : OwnO q u B H) (ne : q ≠ p) : OwnO q u B (upd H p o') := ⟨h.1, by rw [upd_ne ne]; exact h.2⟩
/-- a tuple is shown -/
theorem Ext.seeT {xs : List V} (X : Ext B0 H0 B H) (h : H p = some (.tup xs)) (b : B p = none) : Ext B0 H0 (upd B p (.tup xs)) H := ⟨X.ex, X.bb.trans (Ex.new b), fun a u z => by
  by_cases e : a = p
  · subst e
    rw [upd_same] at z
    exact h.trans z
  · rw [upd_ne e] at z
    exact X.le a u z, fun a m z => by
  have ne : a ≠ p := by
    rintro rfl
    cases e : H0 a with
    | none => rw [e] at m; exact m
    | some u =>
      have := X.ex a u e
      rw [h] at this
      cases this
      rw [e] at m
      exact m
  rw [upd_ne ne]
  exact X.hid a m z⟩
/-- a tuple that stands in the heap is seen from now on -/
theorem show_tup {K : PySem.W.Frag} {σ : L2.St} {G : Gam} {xs : List V} (e : Env K B σ G) (X : Ext B0 H0 B H) (h : H p = some (.tup xs)) : ∃ B2, B2 p = some (.tup xs) ∧ Env K B2 σ G ∧ Ext B0 H0 B2 H ∧ Ex B B2 ∧ ∀ a, Mu (H a) → B a = none → B2 a = none := by
  cases b : B p with
  | some u =>
    have := X.le p u b
    rw [h] at this
    cases this
    exact ⟨B, b, e, X, Ex.refl B, fun _ _ z => z⟩
  | none =>
    refine ⟨_, upd_same, e.mono (Ex.new b), X.seeT h b, Ex.new b, fun a m z => ?_⟩
    have ne : a ≠ p := by
      rintro rfl
      rw [h] at m
      exact m
    rw [upd_ne ne]
    exact z
end
def encK (k : List Nat) : List Key := k.map fun n : Nat => (Sum.inl (n : Int) : Key)
theorem encK_V (k : List Nat) : (encK k).map kV = (k.map fun n : Nat => (n : Int)).map V.int := by
  unfold encK
  rw [List.map_map, List.map_map]
  rfl
theorem encK_inj : ∀ {a b : List Nat}, encK a = encK b → a = b
  | [], [], _ => rfl
  | [], _ :: _, h => by cases h
  | _ :: _, [], h => by cases h
  | x :: a, y :: b, h => by
    unfold encK at h
    simp only [List.map_cons, List.cons.injEq, Sum.inl.injEq] at h
    rw [encK_inj (show encK a = encK b from h.2), show x = y by omega]
def encP {α : Type} (f : α → V) (P : List (List Nat × α)) : List (List Key × V) := P.map fun kv => (encK kv.1, f kv.2)
theorem encP_len {α : Type} {f : α → V} {P : List (List Nat × α)} : (encP f P).length = P.length := List.length_map ..
theorem encP_get {α : Type} {f : α → V} {k : List Nat} : ∀ {P : List (List Nat × α)}, valV (encP f P) (encK k) = ((P.find? fun kv => decide (kv.1 = k)).map (·.2)).map f
  | [] => rfl
  | kv :: P => by
    unfold encP
    rw [List.map_cons, List.find?_cons]
    by_cases e : kv.1 = k
    · rw [valV_pos (by rw [e]), decide_eq_true e]
      rfl
    · rw [valV_neg (fun z => e (encK_inj z)), decide_eq_false e]
      exact encP_get (P := P)
theorem encP_put {α : Type} {f : α → V} {k : List Nat} {v : α} {P : List (List Nat × α)} : putK (encP f P) (encK k) (f v) = encP f (if (P.any fun kv => decide (kv.1 = k)) = true then P.map (fun kv => if kv.1 = k then (kv.1, v) else kv) else P ++ [(k, v)]) := by
  have ea : ((encP f P).any fun kv => decide (kv.1 = encK k)) = (P.any fun kv => decide (kv.1 = k)) := by
    unfold encP
    rw [List.any_map]
    congr 1
    funext kv
    show decide (encK kv.1 = encK k) = _
    exact decide_eq_decide.mpr ⟨encK_inj, fun e => by rw [e]⟩
  unfold putK
  rw [ea]
  split
  · unfold encP
    rw [List.map_map, List.map_map]
    apply List.map_congr_left
    intro kv _
    show (if encK kv.1 = encK k then (encK kv.1, f v) else (encK kv.1, f kv.2)) = _
    by_cases e : kv.1 = k
    · rw [if_pos (by rw [e])]
      show _ = (encK (if kv.1 = k then (kv.1, v) else kv).1, f (if kv.1 = k then (kv.1, v) else kv).2)
      rw [if_pos e]
    · rw [if_neg (fun z => e (encK_inj z))]
      show _ = (encK (if kv.1 = k then (kv.1, v) else kv).1, f (if kv.1 = k then (kv.1, v) else kv).2)
      rw [if_neg e]
  · unfold encP
    rw [List.map_append]
    rfl
end Wk
-- R12
namespace Wk
open PySem PySem.Spec PyProof.Rows L2 Evl
section
variable {K : PySem.W.Frag} {G : Gam} {te ta tb : TE} {ds : List D} {i j j1 j2 : Nat} {σ : L2.St} {B H B0 H0 : Hp} {De : Ends} {p q : Addr} {ns : List Int}
theorem ev_tk (h : G[i]? = some (.tk ns)) : Ev K (tVar i) G (.tk ns) := ev_of fun σ B H e _ => by
  obtain ⟨p, a, b⟩ := env_dat e h
  exact ⟨.ref p, ⟨p, rfl, b⟩, fun Q z => ⟨.ref p, a, z⟩⟩
theorem ev_tkD (h : G[i]? = some (.tk ns)) : ED K (tVar i) G (.tuple (ns.map .int)) := (ev_tk h).le rfl
/-- tuple(a new list of ints) -/
theorem ev_tupK (h : EvN K te G (ns.map .int)) : Ev K (tCB (rTupOf K) (tCons te tNil)) G (.tk ns) := fun σ B H e eb Q k => h σ B H e eb _ fun p xs H1 B1 hp x1 h1 b1 r1 =>
  ⟨p, xs, rfl, .inl ⟨SqL.of h1, fun l hl => k _ _ (upd B1 l (.tup xs)) (x1.trans (Ext.new x1.le hl)) ⟨l, rfl, by rw [dps_ints r1]; exact upd_same⟩⟩⟩
theorem ev_nilK : Ev K (tTup tNil) G (.tk []) := fun σ B H e eb Q k => ⟨sz_of (n := 0) (by decide), fun l hl => k _ _ _ (Ext.new eb hl) ⟨l, rfl, upd_same⟩⟩
theorem s_dadd {kvs kvs' : List (List Key × V)} {k : List Key} {a c : Int} (hk : k.map kV = ns.map V.int) (hp : G[i]? = some (.val (.ref p))) (hkey : G[j]? = some (.tk ns)) (hc : ED K te G (.int c)) (e : Env K B σ G) (X : Ext B0 H0 B H) (n0 : H0 p = none) (o : OwnO p (.dT kvs) B H)
    (ha : (valV kvs k).getD (.int 0) = .int a) (hz : kvs.length < 100000) (hput : putK kvs k (.int (a + c)) = kvs')
    (kk : ∀ H' B', Ext B0 H0 B' H' → Ex B B' → OwnO p (.dT kvs') B' H' → (∀ q u, q ≠ p → Mu (some u) → OwnO q u B H → OwnO q u B' H') → Env K B' σ G → De.nx σ H') :
    sDPut (tVar i) (tVar j) (tOp (rI0 fun i j => .int (i + j)) (tDGet2 (tVar i) (tVar j) (tC (.int 0))) te) De σ H := by
  obtain ⟨q, eq, kq⟩ := env_dat e hkey
  have kH := X.le q _ kq
  refine ⟨.ref p, env_dat e hp, p, rfl, .inr ⟨kvs, .inl o.2⟩, .ref q, eq, valV kvs k, DGet.t o.2 (by rw [hk]; exact kH), ?_⟩
  rw [ha]
  refine hc σ B H e X.le _ fun w H1 B1 x1 r1 => ⟨a, c, rfl, dp_int (dat_ok r1), .ref p, env_dat e hp, .ref q, eq, p, _, rfl, DPut.t (o.ext trivial x1).2 (by rw [hk]; exact x1.ex q _ kH) (sz_lt hz), ?_⟩
  rw [hput]
  obtain ⟨X2, o2⟩ := (o.ext trivial x1).put (o' := .dT kvs') (X.trans x1) n0
  exact kk _ B1 X2 x1.bb o2 (fun q u ne m oq => (oq.ext m x1).keep ne) (e.mono x1.bb)
theorem s_items {kvs : List (List Key × V)} {od : Obj} {tbd : TS} (hi : G[i]? = some (.val (.ref p))) (e : Env K B σ G) (X : Ext B0 H0 B H) (o : OwnO p (.frz od (.dT kvs)) B H) (Gi : Nat → Gam) (Φ : Nat → Hp → Hp → Prop) (h0 : Gle (Gi 0) G ∧ Φ 0 B H)
    (hx : ∀ i B H B' H', Φ i B H → Ext B H B' H' → Φ i B' H')
    (hs : ∀ n k v q σ2 B' H', kvs[n]? = some (k, v) → Ext B0 H0 B' H' → Ex B B' → OwnO p (.frz od (.dT kvs)) B' H' → Φ n B' H' → B' q = some (.tup (k.map kV)) → Env K B' σ2 (((Gi n).set j1 (.val (.ref q))).set j2 (.val v)) →
      tbd { De with nx := fun σ3 H3 => ∃ B3, Env K B3 σ3 (Gi (n + 1)) ∧ Ext B0 H0 B3 H3 ∧ Ex B B3 ∧ OwnO p (.frz od (.dT kvs)) B3 H3 ∧ Φ (n + 1) B3 H3, ct := fun σ3 H3 => ∃ B3, Env K B3 σ3 (Gi (n + 1)) ∧ Ext B0 H0 B3 H3 ∧ Ex B B3 ∧ OwnO p (.frz od (.dT kvs)) B3 H3 ∧ Φ (n + 1) B3 H3, bk := De.nx } σ2 H')
    (hd : ∀ σ' B' H', Env K B' σ' (Gi kvs.length) → Ext B0 H0 B' H' → Ex B B' → OwnO p (.frz od (.dT kvs)) B' H' → Φ kvs.length B' H' → De.nx σ' H') : tFor (iItemsT (tVar i)) (gPair K j1 j2) tbd De σ H := by
  refine ⟨.ref p, env_dat e hi, p, od, kvs, rfl, o.2, fun n m σ' H' => m = kvs.length - n ∧ n ≤ kvs.length ∧ ∃ B', Env K B' σ' (Gi n) ∧ Ext B0 H0 B' H' ∧ Ex B B' ∧ OwnO p (.frz od (.dT kvs)) B' H' ∧ Φ n B' H',
    ⟨kvs.length, by simp, Nat.zero_le _, B, e.le h0.1, X, Ex.refl B, o, h0.2⟩, fun n m σ' H' z => ?_⟩
  obtain ⟨rfl, hn, B', e', X', b', o', φ⟩ := z
  by_cases hlt : n < kvs.length
  · refine .inr ⟨⟨o'.2, hlt⟩, fun σ3 H3 => ∃ B3, Env K B3 σ3 (Gi (n + 1)) ∧ Ext B0 H0 B3 H3 ∧ Ex B B3 ∧ OwnO p (.frz od (.dT kvs)) B3 H3 ∧ Φ (n + 1) B3 H3, fun σ3 H3 z => ⟨kvs.length - (n + 1), by omega, rfl, hlt, z⟩, fun x H2 y => ?_⟩
    obtain ⟨T, q, k, v, ek, hq, rfl, hT, rfl⟩ := y
    obtain ⟨B2, hb, e2, X2, b2, kp⟩ := show_tup e' X' hq
    have ne : p ≠ T := fun z => by rw [← z, o'.2] at hT; cases hT
    have o2 : OwnO p (.frz od (.dT kvs)) B2 H' := ⟨kp p (by rw [o'.2]; trivial) o'.1, o'.2⟩
    have x3 : Ext B2 H' B2 (upd H' T (.tup [.ref q, v])) := Ext.hide X2.le hT
    have xs : Ext B' H' B2 H' := ⟨Ex.refl H', b2, X2.le, fun a m z => kp a m z⟩
    exact ⟨T, [.ref q, v], rfl, st_of upd_same, rfl, .ref q, [v], rfl, v, [], rfl, rfl, hs n k v q _ B2 _ ek (X2.trans x3) (b'.trans b2) (o2.ext trivial x3) (hx _ _ _ _ _ φ (xs.trans x3)) hb ((e2.set (t := .val (.ref q)) rfl).set (t := .val v) rfl)⟩
  · have en : n = kvs.length := by omega
    subst en
    exact .inl ⟨⟨o'.2, rfl⟩, hd σ' B' H' e' X' b' o' φ⟩
/-- the statement with d locked -/
theorem s_lock {kvs : List (List Key × V)} {t : TS} (e : Env K B σ G) (X : Ext B0 H0 B H) (n0 : H0 p = none) (o : OwnO p (.dT kvs) B H)
    (h : ∀ od, Ext B0 H0 B (upd H p (.frz od (.dT kvs))) → OwnO p (.frz od (.dT kvs)) B (upd H p (.frz od (.dT kvs))) →
      t ⟨fun σ' H' => H' p = some (.frz od (.dT kvs)) ∧ De.nx σ' (upd H' p (.dT kvs)), fun v H' => H' p = some (.frz od (.dT kvs)) ∧ De.rt v (upd H' p (.dT kvs)), fun σ' H' => H' p = some (.frz od (.dT kvs)) ∧ De.bk σ' (upd H' p (.dT kvs)), fun σ' H' => H' p = some (.frz od (.dT kvs)) ∧ De.ct σ' (upd H' p (.dT kvs))⟩ σ (upd H p (.frz od (.dT kvs)))) : tLock t De σ H :=
  ⟨p, .dT kvs, o.2, trivial, fun od => let ⟨X2, o2⟩ := o.put (o' := .frz od (.dT kvs)) X n0; h od X2 o2⟩
/-- unlocking -/
theorem OwnO.unlock {kvs : List (List Key × V)} {od : Obj} (o : OwnO p (.frz od (.dT kvs)) B H) (X : Ext B0 H0 B H) (n0 : H0 p = none) : Ext B0 H0 B (upd H p (.dT kvs)) ∧ OwnO p (.dT kvs) B (upd H p (.dT kvs)) := o.put X n0
theorem s_dnew (e : Env K B σ G) (eb : Ex B H) (k : ∀ p σ' H', H p = none → Ext B H B H' → OwnO p (.dT []) B H' → Env K B σ' (G.set i (.val (.ref p))) → De.nx σ' H') : tAsg tDNewT (gName i) De σ H :=
  fun p hp => k p _ _ hp (Ext.hide eb hp) ⟨fresh_back eb hp, upd_same⟩ (e.set rfl)
/-- len(d) -/
theorem ev_lenD {kvs : List (List Key × V)} (hi : G[i]? = some (.val (.ref p))) : ∀ σ B H, Env K B σ G → Ex B H → OwnO p (.dT kvs) B H → ∀ Q : VK, Q (.int (kvs.length : Int)) H → tCB rLenT (tCons (tVar i) tNil) σ H Q := fun σ B H e eb o Q k => ⟨.ref p, env_dat e hi, p, kvs, rfl, o.2, k⟩
theorem e_pick {vs' : List Nat} {kvs : List (List Key × V)} {g : List Key × V → Bool} {tt : TT} {tk tv : TE} (hi : G[i]? = some (.val (.ref p))) (e : Env K B σ G) (X : Ext B0 H0 B H) (n0 : H0 p = none) (o : OwnO p (.dT kvs) B H) (hz : kvs.length < 100000) (nd : (kvs.map Prod.fst).Nodup) (hv : j1 ∈ vs' ∧ j2 ∈ vs')
    (ht : ∀ k v q, (k, v) ∈ kvs → EvT K tt (((wipeG G vs').set j1 (.val (.ref q))).set j2 (.val v)) (g (k, v))) (htk : tk = tVar j1) (htv : tv = tVar j2) (n12 : j1 ≠ j2) (hl : j1 < G.length ∧ j2 < G.length) {Q : VK}
    (k : ∀ d H' B', H d = none → Ext B0 H0 B' H' → Ex B B' → OwnO p (.dT kvs) B' H' → OwnO d (.dT (kvs.filter g)) B' H' → (∀ q u, q ≠ p → Mu (some u) → OwnO q u B H → OwnO q u B' H') → Q (.ref d) H') : tLockE (tDcT (iItemsT (tVar i)) (gPair K j1 j2) tt tk tv vs') σ H Q := by
  refine ⟨p, .dT kvs, o.2, trivial, fun od => ?_⟩
  obtain ⟨X1, o1⟩ := o.put (o' := .frz od (.dT kvs)) X n0
  have keep1 : ∀ q u, q ≠ p → Mu (some u) → OwnO q u B H → OwnO q u B (upd H p (.frz od (.dT kvs))) := fun q u ne m oq => oq.keep ne
  generalize hH1 : upd H p (.frz od (.dT kvs)) = H1 at X1 o1 keep1
  refine ⟨.ref p, env_dat e hi, p, od, kvs, rfl, o1.2, fun d hd => ?_⟩
  have hdH : H d = none := by
    rw [← hH1] at hd
    by_cases z : d = p
    · rw [z, upd_same] at hd; cases hd
    · rwa [upd_ne z] at hd
  have dp : d ≠ p := fun z => by rw [z, o1.2] at hd; cases hd
  have h0d : H0 d = none := Evl.fresh_back X.ex hdH
  have Bd : B d = none := Evl.fresh_back X1.le hd
  refine ⟨fun n m H' => m = kvs.length - n ∧ n ≤ kvs.length ∧ ∃ B', Ext B0 H0 B' H' ∧ Ex B B' ∧ OwnO p (.frz od (.dT kvs)) B' H' ∧ OwnO d (.dT ((kvs.take n).filter g)) B' H' ∧ ∀ q u, q ≠ p → Mu (some u) → OwnO q u B H → OwnO q u B' H',
    ⟨kvs.length, by simp, Nat.zero_le _, B, X1.trans (Ext.hide X1.le hd), Ex.refl B, o1.ext trivial (Ext.hide X1.le hd), ⟨Bd, upd_same⟩, fun q u ne m oq => (keep1 q u ne m oq).ext m (Ext.hide X1.le hd)⟩, fun n m H' z => ?_⟩
  obtain ⟨rfl, hn, B', X', b', o', od', kp'⟩ := z
  by_cases hlt : n < kvs.length
  · refine .inr ⟨⟨o'.2, hlt⟩, fun H3 => ∃ B', Ext B0 H0 B' H3 ∧ Ex B B' ∧ OwnO p (.frz od (.dT kvs)) B' H3 ∧ OwnO d (.dT ((kvs.take (n + 1)).filter g)) B' H3 ∧ ∀ q u, q ≠ p → Mu (some u) → OwnO q u B H → OwnO q u B' H3, fun H3 z => ⟨kvs.length - (n + 1), by omega, rfl, hlt, z⟩, fun x H2 y => ?_⟩
    obtain ⟨T, q, k', v, ek, hq, rfl, hT, rfl⟩ := y
    have mem : (k', v) ∈ kvs := List.mem_of_getElem? ek
    have e2 : Env K B' (L2.wipe σ vs') (wipeG G vs') := (e.mono b').wipe vs'
    have x3 : Ext B' H' B' (upd H' T (.tup [.ref q, v])) := Ext.hide X'.le hT
    refine ⟨T, [.ref q, v], rfl, st_of upd_same, rfl, .ref q, [v], rfl, v, [], rfl, rfl, by rw [wipe_set hv.2, wipe_set hv.1]; exact wipe_wipe, ?_⟩
    refine ht k' v q mem _ B' _ ((e2.set (t := .val (.ref q)) rfl).set (t := .val v) rfl) x3.le _ fun H4 B4 x4 => ?_
    have x34 := x3.trans x4
    have tk1 : (kvs.take (n + 1)).filter g = (kvs.take n).filter g ++ (if g (k', v) = true then [(k', v)] else []) := by
      rw [List.take_succ, ek, List.filter_append]
      congr 1
      show List.filter g [(k', v)] = _
      rw [List.filter_cons]
      split <;> rfl
    rw [tk1]
    by_cases hg : g (k', v) = true
    · rw [if_pos hg, hg, if_pos rfl, htk, htv]
      have len : (L2.wipe σ vs').length = G.length := by rw [wipe_len, e.len]
      refine ⟨.ref q, by rw [List.getElem?_set_ne (fun z => n12 z.symm), List.getElem?_set_self (by rw [len]; exact hl.1)], v, by rw [List.getElem?_set_self (by rw [List.length_set, len]; exact hl.2)], (kvs.take n).filter g, k', q, rfl, x4.ex q _ (x3.ex q _ hq), (od'.ext trivial x34).2, ?_, ?_⟩
      · refine sz_lt ?_
        have := List.length_filter_le g (kvs.take n)
        rw [List.length_take] at this
        omega
      · have ep : putK ((kvs.take n).filter g) k' v = (kvs.take n).filter g ++ [(k', v)] := by
          unfold putK
          rw [if_neg]
          intro z
          rw [List.any_eq_true] at z
          obtain ⟨kv, hkv, ez⟩ := z
          have ez := of_decide_eq_true ez
          obtain ⟨m, hm, em⟩ := List.getElem_of_mem (List.mem_filter.mp hkv).1
          rw [List.length_take] at hm
          rw [List.getElem_take] at em
          have pw := List.pairwise_iff_getElem.mp (List.nodup_iff_pairwise_ne.mp nd) m n (by rw [List.length_map]; omega) (by rw [List.length_map]; omega) (by omega)
          apply pw
          rw [List.getElem_map, List.getElem_map, em, ez]
          have := (List.getElem?_eq_some_iff.mp ek).2
          rw [this]
        rw [ep]
        obtain ⟨X5, o5⟩ := (od'.ext trivial x34).put (o' := .dT ((kvs.take n).filter g ++ [(k', v)])) (X'.trans x34) h0d
        refine ⟨B4, X5, b'.trans x34.bb, (o'.ext trivial x34).keep (fun z => dp z.symm), o5, fun q u ne m oq => ?_⟩
        have nq : q ≠ d := fun z => by
          have := oq.2
          rw [z, hdH] at this
          cases this
        exact ((kp' q u ne m oq).ext m x34).keep nq
    · rw [if_neg hg]
      have hg' : g (k', v) = false := by cases z : g (k', v) with | false => rfl | true => exact absurd z hg
      rw [hg', if_neg (by decide), List.append_nil]
      exact ⟨B4, X'.trans x34, b'.trans x34.bb, o'.ext trivial x34, od'.ext trivial x34, fun q u ne m oq => (kp' q u ne m oq).ext m x34⟩
  · have en : n = kvs.length := by omega
    subst en
    rw [List.take_length] at od'
    obtain ⟨X5, o5⟩ := o'.unlock X' (Evl.fresh_back (Ex.refl H0) n0)
    exact .inl ⟨⟨o'.2, rfl⟩, o'.2, k d _ B' hdH X5 b' o5 (od'.keep dp) fun q u ne m oq => (kp' q u ne m oq).keep ne⟩
end
end Wk
-- R13
namespace Wk
open PySem PySem.Spec PyProof.Rows L2 Evl
inductive Ents (K : PySem.W.Frag) (B : Hp) : List V → List Ent → Prop
  | nil : Ents K B [] []
  | cons {v : V} {t : Ent} {vs : List V} {ts : List Ent} : EntOk K B (some (some v)) t → Ents K B vs ts → Ents K B (v :: vs) (t :: ts)
theorem Ents.len {K : PySem.W.Frag} {B : Hp} {vs : List V} {ts : List Ent} (h : Ents K B vs ts) : vs.length = ts.length := by
  induction h with
  | nil => rfl
  | cons _ _ ih => rw [List.length_cons, List.length_cons, ih]
theorem Ents.at_ {K : PySem.W.Frag} {B : Hp} {vs : List V} {ts : List Ent} (h : Ents K B vs ts) : ∀ i, i < ts.length → EntOk K B ((vs.map some)[i]?) (ts.getD i .no) := by
  induction h with
  | nil => intro i hi; exact absurd hi (Nat.not_lt_zero i)
  | cons a _ ih =>
    intro i hi
    cases i with
    | zero => exact a
    | succ i =>
      have := ih i (by simpa using hi)
      simpa using this
theorem env_ents {K : PySem.W.Frag} {B : Hp} {N : List Str} {vs : List V} {ts : List Ent} (h : Ents K B vs ts) (hl : ts.length ≤ N.length) : Env K B (L2.start N vs) (ts ++ List.replicate (N.length - ts.length) Ent.no) := by
  have el := h.len
  refine ⟨by unfold L2.start; simp [el], fun i => ?_⟩
  unfold L2.start
  by_cases hi : i < ts.length
  · have hx : i < vs.length := by omega
    rw [List.getElem?_append_left (by simpa using hx), List.getD_eq_getElem?_getD, List.getElem?_append_left hi, ← List.getD_eq_getElem?_getD]
    exact h.at_ i hi
  · have e1 : (ts ++ List.replicate (N.length - ts.length) Ent.no).getD i .no = .no := by
      rw [List.getD_eq_getElem?_getD, List.getElem?_append_right (by omega), List.getElem?_replicate]
      split <;> rfl
    rw [e1]
    exact trivial
end Wk
-- R14
namespace Wk
open PySem PySem.Spec PyProof.Rows L2 Evl
section
variable {K : PySem.W.Frag} {G : Gam} {te ta tl : TE} {tt : TT} {g : TG} {wi : TI} {js vs : List Nat} {n : Nat} {up : Nat → Gam → Gam} {d : D} {ds es : List D} {i j : Nat} {t : Ent} {σ : L2.St} {B H B0 H0 : Hp} {De : Ends} {tu tw tb : TS} {p : Addr} {v : V}
theorem Env.know (e : Env K B σ G) (h : σ[i]? = some (some v)) : Env K B σ (G.set i (.val v)) := by
  have es : σ.set i (some v) = σ := by
    apply List.ext_getElem?
    intro k
    by_cases q : i = k
    · subst q
      rw [List.getElem?_set_self (List.getElem?_eq_some_iff.mp h).1, h]
    · rw [List.getElem?_set_ne q]
  have q := e.set (i := i) (v := v) (t := .val v) rfl
  rwa [es] at q
theorem wipe_keep {σ σ2 : L2.St} (h : L2.wipe σ2 js = L2.wipe σ js) {k : Nat} (hk : k ∉ js) : σ2[k]? = σ[k]? := by
  have q : (L2.wipe σ2 js)[k]? = (L2.wipe σ js)[k]? := by rw [h]
  rw [wipe_get, wipe_get, if_neg hk, if_neg hk] at q
  exact q
theorem ev_valI {c : Int} (h : G[i]? = some (.val (.int c))) : ED K (tVar i) G (.int c) := ev_of fun σ B H e _ => ⟨.int c, ok_dat (.int c), fun Q q => ⟨.int c, env_dat e h, q⟩⟩
/-- for: what else is known may tell of the slots -/
theorem s_forS (w : EvW K wi g js G n up) (e : Env K B σ G) (X : Ext B0 H0 B H) (Gi : Nat → Gam) (Φ : Hp → Nat → L2.St → Hp → Hp → Prop) (h0 : ∀ B1 H1, Ext B H B1 H1 → Gle (Gi 0) G ∧ Φ B1 0 σ B1 H1)
    (hs : ∀ B1 i σ1 σ2 B' H' H'', i < n → Ext B0 H0 B' H' → Ex B1 B' → Φ B1 i σ1 B' H' → Ext B' H' B' H'' → (∀ k, k ∉ js → σ2[k]? = σ1[k]?) → Env K B' σ2 (up i (Gi i)) →
      tb { De with nx := fun σ3 H3 => ∃ B3, Env K B3 σ3 (Gi (i + 1)) ∧ Ext B0 H0 B3 H3 ∧ Ex B1 B3 ∧ Φ B1 (i + 1) σ3 B3 H3, ct := fun σ3 H3 => ∃ B3, Env K B3 σ3 (Gi (i + 1)) ∧ Ext B0 H0 B3 H3 ∧ Ex B1 B3 ∧ Φ B1 (i + 1) σ3 B3 H3, bk := De.nx } σ2 H'')
    (hd : ∀ B1 σ' B' H', Env K B' σ' (Gi n) → Ext B0 H0 B' H' → Ex B1 B' → Φ B1 n σ' B' H' → De.nx σ' H') : tFor wi g tb De σ H :=
  w σ B H e X.le _ fun J H1 B1 x1 T => ⟨fun i m σ' H' => m = n - i ∧ i ≤ n ∧ ∃ B', Env K B' σ' (Gi i) ∧ Ext B0 H0 B' H' ∧ Ex B1 B' ∧ Φ B1 i σ' B' H',
    ⟨n, by simp, Nat.zero_le _, B1, (e.mono x1.bb).le (h0 B1 H1 x1).1, X.trans x1, Ex.refl B1, (h0 B1 H1 x1).2⟩, fun i m σ' H' z => by
    obtain ⟨rfl, hi, B', e', X', b', φ⟩ := z
    by_cases hlt : i < n
    · refine .inr ⟨T.go i H' hlt (b'.trans X'.le), fun σ3 H3 => ∃ B3, Env K B3 σ3 (Gi (i + 1)) ∧ Ext B0 H0 B3 H3 ∧ Ex B1 B3 ∧ Φ B1 (i + 1) σ3 B3 H3, fun σ3 H3 z => ⟨n - (i + 1), by omega, rfl, hlt, z⟩, fun x H2 y => ?_⟩
      obtain ⟨x2, tk⟩ := T.yld i x B' H' H2 hlt b' X'.le y
      exact tk _ _ e' _ fun σ2 e2 wp => hs B1 i σ' σ2 B' H' H2 hlt X' b' φ x2 (fun k hk => wipe_keep (wp js fun _ h => h) hk) e2
    · have ei : i = n := by omega
      subst ei
      exact .inl ⟨T.stop H' (b'.trans X'.le), hd B1 σ' B' H' e' X' b' φ⟩⟩
/-- judgements under what stands -/
def EvTI (K : PySem.W.Frag) (I : Hp → Hp → Prop) (tt : TT) (G : Gam) (b : Bool) : Prop := ∀ σ B H, Env K B σ G → Ex B H → I B H → ∀ Q : Bool → Hp → Prop, (∀ H' B', Ext B H B' H' → Q b H') → tt σ H Q
def EvI (K : PySem.W.Frag) (I : Hp → Hp → Prop) (te : TE) (G : Gam) (d : D) : Prop := ∀ σ B H, Env K B σ G → Ex B H → I B H → ∀ Q : VK, (∀ v H' B', Ext B H B' H' → Dp K B' v d → Q v H') → te σ H Q
theorem EvT.inv {I : Hp → Hp → Prop} {b : Bool} (h : EvT K tt G b) : EvTI K I tt G b := fun σ B H e eb _ => h σ B H e eb
theorem ED.inv {I : Hp → Hp → Prop} (h : ED K te G d) : EvI K I te G d := fun σ B H e eb _ Q k => h σ B H e eb Q fun v H' B' x r => k v H' B' x (dat_ok r)
/-- a list comprehension, where an invariant stands -/
theorem lcI {I : Hp → Hp → Prop} (hI : ∀ B H B' H', I B H → Ext B H B' H' → I B' H') {pp : Nat → Bool} {f : Nat → D} (w : EvW K wi g js G n up) (hn : n ≤ 100000) (hjs : ∀ j ∈ js, j ∈ vs) (ht : ∀ i, i < n → EvTI K I tt (up i (wipeG G vs)) (pp i)) (he : ∀ i, i < n → pp i = true → EvI K I te (up i (wipeG G vs)) (f i))
    (e : Env K B σ G) (eb : Ex B H) (i0 : I B H) (hm : ∀ (B1 H1 B H : Hp) (L : Addr) (o : HO), H1 L = none → I B1 H1 → I B H → I B (upd H L o)) {Q : VK}
    (k : ∀ p xs H' B', H p = none → Ext B H B' H' → H' p = some (.lst xs) → B' p = none → DpAll K B' xs (picked n pp f) → Q (.ref p) H') : tLc wi g tt te vs σ H Q := w σ B H e eb _ fun J H1 B1 e1 T L hL => by
  have i1 := hI _ _ _ _ i0 e1
  have eW : ∀ {B' : Hp}, Ex B1 B' → Env K B' (L2.wipe σ vs) (wipeG G vs) := fun h => ((e.mono e1.bb).mono h).wipe vs
  refine ⟨fun i m H' => m = n - i ∧ i ≤ n ∧ ∃ B', Sofar K B1 H1 L (picked i pp f) B' H' ∧ I B' H', ⟨n, by simp, Nat.zero_le _, B1, ⟨Ext.hide e1.le hL, fresh_back e1.le hL, [], upd_same, .nil⟩, hI _ _ _ _ i1 (Ext.hide e1.le hL)⟩, fun i m H' z => ?_⟩
  obtain ⟨rfl, hi, B', S, i'⟩ := z
  by_cases hlt : i < n
  · refine .inr ⟨T.go i H' hlt (S.ext.bb.trans S.ext.le), fun H2 => ∃ B2, Sofar K B1 H1 L (picked (i + 1) pp f) B2 H2 ∧ I B2 H2, fun H2 z => ⟨n - (i + 1), by omega, rfl, hlt, z⟩, fun x H2 y => ?_⟩
    obtain ⟨x2, tk⟩ := T.yld i x B' H' H2 hlt S.ext.bb S.ext.le y
    have i2 := hI _ _ _ _ i' x2
    refine tk _ _ (eW S.ext.bb) _ fun σ2 e2 wp => ⟨(wp vs hjs).trans wipe_wipe, ht i hlt σ2 B' H2 e2 x2.le i2 _ fun H3 B3 x3 => ?_⟩
    have i3 := hI _ _ _ _ i2 x3
    have x13 := S.ext.trans (x2.trans x3)
    obtain ⟨xs, hxs, rx⟩ := S.at_
    have h3 : H3 L = some (.lst xs) := x3.ex L _ (x2.ex L _ hxs)
    have n2 : Mu (H2 L) := by rw [x2.ex L _ hxs]; trivial
    have u3 : B3 L = none := x3.hid L n2 S.un
    cases hp : pp i with
    | false =>
      refine (if_neg Bool.false_ne_true).mpr ⟨B3, ⟨x13, u3, xs, h3, ?_⟩, i3⟩
      rw [picked_no hp]
      exact dps_mono x3.bb _ rx
    | true =>
      refine (if_pos rfl).mpr (he i hlt hp σ2 B3 H3 (e2.mono x3.bb) x3.le i3 _ fun v H4 B4 x4 r => ?_)
      have i4 := hI _ _ _ _ i3 x4
      have u4 : B4 L = none := x4.hid L (by rw [h3]; trivial) u3
      have len : xs.length < sizeLine := by
        rw [dps_len rx]
        have := picked_len i pp f
        exact sz_lt (by omega)
      have h4 := x4.ex L _ h3
      refine ⟨xs, h4, len, B4, ⟨(x13.trans x4).mut hL u4, u4, _, upd_same, ?_⟩, hm B1 H1 B4 H4 L _ hL i1 i4⟩
      rw [picked_yes hp]
      exact dps_app (dps_mono (x3.bb.trans x4.bb) _ rx) (.cons r .nil)
  · have ei : i = n := by omega
    subst ei
    obtain ⟨xs, hxs, rx⟩ := S.at_
    exact .inl ⟨T.stop H' (S.ext.bb.trans S.ext.le), k L xs H' B' (fresh_back e1.ex hL) (e1.trans S.ext) hxs S.un rx⟩
theorem picked_list {α : Type} {l : List α} {dd : α} {h : α → Bool} {f : α → D} : picked l.length (fun j => h (l.getD j dd)) (fun j => f (l.getD j dd)) = (l.filter h).map f := by
  have e : (List.range l.length).map (fun j => l.getD j dd) = l := by
    apply List.ext_getElem?
    intro i
    by_cases hi : i < l.length
    · rw [List.getElem?_map, List.getElem?_range hi]
      show some (l.getD i dd) = _
      rw [List.getD_eq_getElem?_getD, List.getElem?_eq_getElem hi]
      rfl
    · rw [List.getElem?_eq_none (by simpa using hi), List.getElem?_eq_none (by simpa using hi)]
  have e2 : (l.filter h).map f = ((((List.range l.length).map (fun j => l.getD j dd)).filter h)).map f := by rw [e]
  rw [e2, List.filter_map, List.map_map]
  rfl
/-- a callee leaves it as it was -/
theorem Ext.same {B' H' : Hp} {o : HO} (Y : Ext B (hideH H [p]) B' H') (a : OwnO p o B H) (b : OwnO p o B' H') : Ext B H B' H' := ⟨fun q u z => by
  by_cases e : q = p
  · rw [e, a.2] at z
    rw [e, b.2]
    exact z
  · exact Y.ex q u (by rw [hide_out (by simp [e])]; exact z), Y.bb, Y.le, fun q m z => by
  by_cases e : q = p
  · rw [e]; exact b.1
  · exact Y.hid q (by rw [hide_out (by simp [e])]; exact m) z⟩
theorem Own.keepU {o : HO} {q : Addr} (h : Own K q ds B H) (ne : q ≠ p) : Own K q ds B (upd H p o) := by
  obtain ⟨a, xs, b, r⟩ := h
  exact ⟨a, xs, by rw [upd_ne ne]; exact b, r⟩
theorem OwnO.neN {o : HO} {q : Addr} (h : OwnO q o B H) (hp : H p = none) : q ≠ p := fun z => by rw [← z, h.2] at hp; cases hp
theorem Own.neN {q : Addr} (h : Own K q ds B H) (hp : H p = none) : q ≠ p := fun z => h.ne hp z.symm
theorem Own.show2 (o : Own K p ds B H) (e : Env K B σ G) (X : Ext B0 H0 B H) (n0 : H0 p = none) (hi : G[i]? = some (.val (.ref p))) :
    ∃ B2, Env K B2 σ (G.set i (.dat (.list ds))) ∧ Ext B0 H0 B2 H ∧ Ex B B2 ∧ (∀ q es, q ≠ p → Own K q es B H → Own K q es B2 H) ∧ ∀ q u, q ≠ p → OwnO q u B H → OwnO q u B2 H := by
  obtain ⟨bp, xs, hp, r⟩ := o
  obtain ⟨e2, X2, bb⟩ := reveal e X n0 bp hp
  refine ⟨_, e2.re hi (ok_dat (dp_shown bp r)), X2, bb, fun q es ne oq => ?_, fun q u ne oq => ⟨by rw [upd_ne ne]; exact oq.1, oq.2⟩⟩
  obtain ⟨bq, ys, hq, rq⟩ := oq
  exact ⟨by rw [upd_ne ne]; exact bq, ys, hq, dps_mono bb _ rq⟩
/-- .. an append keeps the other things -/
theorem Own.app2 {De : Ends} (hi : G[i]? = some (.val (.ref p))) (h : ED K te G d) (e : Env K B σ G) (X : Ext B0 H0 B H) (n0 : H0 p = none) (o : Own K p ds B H) (hz : ds.length < 100000)
    (k : ∀ H' B', Ext B0 H0 B' H' → Ex B B' → (∀ q es, q ≠ p → Own K q es B H → Own K q es B' H') → (∀ q u, q ≠ p → Mu (some u) → OwnO q u B H → OwnO q u B' H') → Own K p (ds ++ [d]) B' H' → Env K B' σ G → De.nx σ H') : tDrop (tBM K "list" rAppend (tVar i) (tCons te tNil)) De σ H := by
  obtain ⟨bp, xs, hp, r⟩ := o
  refine s_app hi h e X n0 bp hp r hz fun y H' B' x bb keep hid h1 b1 r1 e1 => k H' B' x bb (fun q es ne oq => ?_) (fun q u ne m oq => ?_) ⟨b1, _, h1, r1⟩ e1
  · obtain ⟨bq, ys, hq, rq⟩ := oq
    have n : H q ≠ none := by rw [hq]; exact fun z => nomatch z
    exact ⟨hid q (by rw [hq]; trivial) bq, ys, by rw [keep q ne n]; exact hq, dps_mono bb _ rq⟩
  · have n : H q ≠ none := by rw [oq.2]; exact fun z => nomatch z
    exact ⟨hid q (by rw [oq.2]; exact m) oq.1, by rw [keep q ne n]; exact oq.2⟩
end
end Wk
-- R15
namespace Wk
open PySem PySem.Spec PyProof.Rows L2 Evl
section
variable {K : PySem.W.Frag} {G : Gam} {g : TG} {wi : TI} {js : List Nat} {n : Nat} {up : Nat → Gam → Gam} {σ : L2.St} {B H B0 H0 : Hp} {De : Ends} {tb : TS}
theorem s_forB (w : EvW K wi g js G n up) (e : Env K B σ G) (X : Ext B0 H0 B H) (Gi : Nat → Gam) (Φ : Nat → Prop) (Ψ : Nat → Prop) (h0 : Gle (Gi 0) G ∧ Φ 0) (hn : Φ n → Ψ n)
    (hd : ∀ i σ' B' H', i ≤ n → Ψ i → Env K B' σ' (Gi i) → Ext B0 H0 B' H' → De.nx σ' H')
    (hs : ∀ B1 i σ2 B' H' H'', i < n → Ext B0 H0 B' H' → Ex B1 B' → Φ i → Ext B' H' B' H'' → Env K B' σ2 (up i (Gi i)) → (∀ i σ' B' H', i ≤ n → Ψ i → Env K B' σ' (Gi i) → Ext B0 H0 B' H' → De.nx σ' H') →
      tb { De with nx := fun σ3 H3 => ∃ B3, Env K B3 σ3 (Gi (i + 1)) ∧ Ext B0 H0 B3 H3 ∧ Ex B1 B3 ∧ Φ (i + 1), ct := fun σ3 H3 => ∃ B3, Env K B3 σ3 (Gi (i + 1)) ∧ Ext B0 H0 B3 H3 ∧ Ex B1 B3 ∧ Φ (i + 1), bk := De.nx } σ2 H'') : tFor wi g tb De σ H :=
  s_for w e X Gi (fun _ i _ _ => Φ i) (fun B1 H1 x1 => h0) (fun B1 i σ2 B' H' H'' hi X' b' φ x e' => hs B1 i σ2 B' H' H'' hi X' b' φ x e' hd) fun B1 σ' B' H' e' X' φ => hd n σ' B' H' (Nat.le_refl n) (hn φ) e' X'
end
end Wk
-- R16
namespace Wk
open PySem PySem.Spec PyProof.Rows L2 Evl
section
variable {K : PySem.W.Frag} {G : Gam} {te ta tl : TE} {tt : TT} {d : D} {ds es : List D} {i j : Nat} {t u : Ent} {σ : L2.St} {B H B0 H0 : Hp} {De : Ends} {tu tw tb : TS} {p : Addr} {z : Int} {b : Bool}
theorem Ext.back (bp : B p = none) {xs : List V} {B1 H1 : Hp} (x : Ext (upd B p (.lst xs)) H B1 H1) : Ext B H B H1 :=
  ⟨x.ex, fun _ _ h => h, fun a o h => x.le a o (x.bb a o (by
    by_cases e : a = p
    · subst e; rw [bp] at h; cases h
    · rw [upd_ne e]; exact h)), fun _ _ h => h⟩
theorem ex_put {xs : List V} (eb : Ex B H) (hp : H p = some (.lst xs)) : Ex (upd B p (.lst xs)) H := fun a o h => by
  by_cases e : a = p
  · subst e
    rw [upd_same] at h
    rw [hp]; exact h
  · rw [upd_ne e] at h
    exact eb a o h
theorem Own.peek (o : Own K p ds B H) (hi : G[i]? = some (.val (.ref p))) (e : Env K B σ G) (eb : Ex B H) (h : ED K te (G.set i (.dat (.list ds))) (.int z)) {Q : VK} (k : ∀ H', Ext B H B H' → Q (.int z) H') : te σ H Q := by
  obtain ⟨bp, xs, hp, r⟩ := o
  refine h σ (upd B p (.lst xs)) H ((e.mono (Ex.new bp)).re hi (ok_dat (dp_shown bp r))) (ex_put eb hp) Q fun v H1 B1 x1 r1 => ?_
  rw [dp_int (dat_ok r1)]
  exact k H1 (Ext.back bp x1)
theorem Own.peekT (o : Own K p ds B H) (hi : G[i]? = some (.val (.ref p))) (e : Env K B σ G) (eb : Ex B H) (h : EvT K tt (G.set i (.dat (.list ds))) b) {Q : Bool → Hp → Prop} (k : ∀ H', Ext B H B H' → Q b H') : tt σ H Q := by
  obtain ⟨bp, xs, hp, r⟩ := o
  exact h σ (upd B p (.lst xs)) H ((e.mono (Ex.new bp)).re hi (ok_dat (dp_shown bp r))) (ex_put eb hp) Q fun H1 B1 x1 => k H1 (Ext.back bp x1)
/-- own[m] = e, where e may read the list -/
theorem Own.setP {m : Nat} {y : Int} {ti : TE} (hp : G[i]? = some (.val (.ref p))) (hi : ED K ti G (.int y)) (ey : y = (m : Int)) (h : ED K te (G.set i (.dat (.list ds))) (.int z)) (e : Env K B σ G) (X : Ext B0 H0 B H) (n0 : H0 p = none) (o : Own K p ds B H) (hm : m < ds.length)
    (k : ∀ H' B', Ext B0 H0 B' H' → Keep K p B H B' H' → Own K p (ds.set m (.int z)) B' H' → Env K B' σ G → De.nx σ H') : tAsg te (gSub (tVar i) ti rSetL) De σ H := by
  refine o.peek hp e X.le h fun H1 x1 => ?_
  have o1 := o.ext x1
  have nx := Own.setL (te := tC (.int z)) (De := De) (ev_val hp) hi ey ev_int e (X.trans x1) n0 o1 hm fun H' B' X' kp o' e' => k H' B' X' ⟨kp.bb, fun q es ne oq => kp.own q es ne (oq.ext x1)⟩ o' e'
  exact nx
theorem Own.asgP (o : Own K p ds B H) (hi : G[i]? = some (.val (.ref p))) (e : Env K B σ G) (eb : Ex B H) (h : ED K te (G.set i (.dat (.list ds))) (.int z)) (k : ∀ σ' H', Ext B H B H' → Env K B σ' (G.set j (.dat (.int z))) → De.nx σ' H') : tAsg te (gName j) De σ H :=
  o.peek hi e eb h fun H' x => k _ H' x (e.set (ok_dat (.int z)))
theorem Own.retP (o : Own K p ds B H) (hi : G[i]? = some (.val (.ref p))) (e : Env K B σ G) (eb : Ex B H) (h : ED K te (G.set i (.dat (.list ds))) (.int z)) (k : ∀ H', Ext B H B H' → De.rt (.int z) H') : tRet te De σ H :=
  o.peek hi e eb h fun H' x => k H' x
theorem Own.ifP (o : Own K p ds B H) (hi : G[i]? = some (.val (.ref p))) (e : Env K B σ G) (eb : Ex B H) (h : EvT K tt (G.set i (.dat (.list ds))) b) (h1 : b = true → ∀ H', Ext B H B H' → tu De σ H') (h2 : b = false → ∀ H', Ext B H B H' → tw De σ H') : tIfS tt tu tw De σ H :=
  o.peekT hi e eb h fun H' x => by
    cases b with
    | true => exact h1 rfl H' x
    | false => exact h2 rfl H' x
end
end Wk
-- R17
namespace Wk
open PySem PySem.Spec PyProof.Rows L2 Evl
def rDivW : List V → Hp → VK → Prop := fun xs H Q => ∃ i j, xs = [.int i, .int j] ∧ CDivP i j ∧ ∀ p, H p = none → Q (.ref p) (upd H p (.tup [.int (i / j), .int (i % j)]))
theorem cr_divmod {X : Cx} : CallR X (.builtin "divmod") rDivW := call_divmodW
theorem divw_ok {i j : Int} (h0 : 0 < j) (h : j < 1000) : CDivP i j := ⟨h0, PyProof.noPylong_of_log2 (by
  have : j.natAbs.log2 < 10 := (Nat.log2_lt (by omega)).mpr (by omega)
  omega)⟩
section
variable {K : PySem.W.Frag} {G : Gam} {te ta tb tl : TE} {tt : TT} {d : D} {ds es : List D} {i j : Nat} {t u : Ent} {σ : L2.St} {B H B0 H0 : Hp} {De : Ends} {tu tw : TS} {p : Addr} {z : Int} {b : Bool} {c c1 c2 N M : Nat}
/-- the well at p, after at most N draws by itself -/
def Well (K : PySem.W.Frag) (p : Addr) (N : Nat) (B H : Hp) : Prop := ∃ a b c : Int, Own K p [.int a, .int b, .int c] B H ∧ 0 ≤ a ∧ a < 2 ^ 40 ∧ 0 ≤ b ∧ b ≤ N
theorem Well.ext {B' H' : Hp} (h : Well K p N B H) (x : Ext B H B' H') : Well K p N B' H' := let ⟨a, b, c, o, r⟩ := h; ⟨a, b, c, o.ext x, r⟩
theorem Well.mono (h : Well K p N B H) (l : N ≤ M) : Well K p M B H := let ⟨a, b, c, o, r1, r2, r3, r4⟩ := h; ⟨a, b, c, o, r1, r2, r3, by omega⟩
/-- an expression that draws from the well at most c times: it comes to some t with R t -/
def WE (K : PySem.W.Frag) (p : Addr) (c : Nat) (te : TE) (G : Gam) (R : Ent → Prop) : Prop :=
  ∀ N σ B H B0 H0, Env K B σ G → Ext B0 H0 B H → H0 p = none → Well K p N B H → N + c ≤ 100000 → ∀ Q : VK,
    (∀ v t H' B', R t → Ext B0 H0 B' H' → Keep K p B H B' H' → Well K p (N + c) B' H' → EntOk K B' (some (some v)) t → Q v H') → te σ H Q
theorem Keep.of {B' H' : Hp} (x : Ext B H B' H') : Keep K p B H B' H' := ⟨x.bb, fun q es _ o => o.ext x⟩
theorem Keep.trans {B1 H1 B2 H2 : Hp} (a : Keep K p B H B1 H1) (b : Keep K p B1 H1 B2 H2) : Keep K p B H B2 H2 := ⟨a.bb.trans b.bb, fun q es ne o => b.own q es ne (a.own q es ne o)⟩
theorem Ev.we (h : Ev K te G t) : WE K p 0 te G (· = t) := fun N σ B H B0 H0 e X n0 w hN Q k => h σ B H e X.le Q fun v H1 B1 x1 r => k v t H1 B1 rfl (X.trans x1) (Keep.of x1) (w.ext x1) r
theorem WE.le {R S : Ent → Prop} (h : WE K p c te G R) (hc : c ≤ c1) (hR : ∀ t, R t → ∃ u, Ent.le u t ∧ S u) : WE K p c1 te G S := fun N σ B H B0 H0 e X n0 w hN Q k =>
  h N σ B H B0 H0 e X n0 w (by omega) Q fun v t H1 B1 r X1 kp w1 ok => let ⟨u, l, s⟩ := hR t r; k v u H1 B1 s X1 kp (w1.mono (by omega)) (EntOk.le l ok)
/-- whole numbers -/
abbrev WI (K : PySem.W.Frag) (p : Addr) (c : Nat) (te : TE) (G : Gam) (R : Int → Prop) : Prop := WE K p c te G fun t => ∃ x, t = .dat (.int x) ∧ R x
theorem we_op {R S T : D → Prop} {r : R2} (ha : WE K p c1 ta G fun t => ∃ x, t = .dat x ∧ R x) (hb : WE K p c2 tb G fun t => ∃ x, t = .dat x ∧ S x) (hr : ∀ x y, R x → S y → ∃ z, T z ∧ Rv K r x y z) : WE K p (c1 + c2) (tOp r ta tb) G fun t => ∃ x, t = .dat x ∧ T x := fun N σ B H B0 H0 e X n0 w hN Q k =>
  ha N σ B H B0 H0 e X n0 w (by omega) _ fun v t H1 B1 ⟨x, et, rx⟩ X1 kp w1 r1 => hb (N + c1) σ B1 H1 B0 H0 (e.mono kp.bb) X1 n0 w1 (by omega) _ fun u t2 H2 B2 ⟨y, eu, sy⟩ X2 kp2 w2 r2 => by
    subst et eu
    obtain ⟨z, tz, rv⟩ := hr x y rx sy
    exact rv v u B2 H2 X2.le (dp_mono kp2.bb x (dat_ok r1)) (dat_ok r2) Q fun v3 H3 B3 e3 r3 => k v3 _ H3 B3 ⟨z, rfl, tz⟩ (X2.trans e3) ((kp.trans kp2).trans (Keep.of e3)) (by rw [← Nat.add_assoc]; exact w2.ext e3) (ok_dat r3)
end
end Wk
-- R18
namespace Wk
open PySem PySem.Spec PyProof.Rows L2 Evl
theorem Ents.mono {K : PySem.W.Frag} {B B' : Hp} (x : Ex B B') {vs : List V} {ts : List Ent} (h : Ents K B vs ts) : Ents K B' vs ts := by
  induction h with
  | nil => exact .nil
  | cons a _ ih => exact .cons (a.mono x) ih
theorem ents_of {K : PySem.W.Frag} {B : Hp} : ∀ {vs : List V} {ds : List D}, DpAll K B vs ds → Ents K B vs (ds.map Ent.dat)
  | _, _, .nil => .nil
  | _, _, .cons a b => .cons (ok_dat a) (ents_of b)
/-- the promise of a def that draws from the well, its first argument, at most c times -/
def spW {α : Type} (K : PySem.W.Frag) (c : Nat) (ds : α → List Ent) (pre : α → Prop) (R : α → Ent → Prop) : Sp := fun vs H Q _ => ∃ (x : α) (p : Addr) (N : Nat) (B : Hp), Ents K B vs (.val (.ref p) :: ds x) ∧ Ex B H ∧ Well K p N B H ∧ N + c ≤ 100000 ∧ pre x ∧
  ∀ v t H' B', R x t → Ext B (hideH H [p]) B' H' → Well K p (N + c) B' H' → EntOk K B' (some (some v)) t → Q v H'
section
variable {K : PySem.W.Frag} {G : Gam} {te ta tb tl : TE} {tt : TT} {d : D} {i j : Nat} {t u : Ent} {σ : L2.St} {B H B0 H0 : Hp} {De : Ends} {tu tw : TS} {p : Addr} {z : Int} {b : Bool} {c c1 c2 N M : Nat}
def WA (K : PySem.W.Frag) (p : Addr) (c : Nat) (ta : TA) (G : Gam) (R : List Ent → Prop) : Prop :=
  ∀ N σ B H B0 H0, Env K B σ G → Ext B0 H0 B H → H0 p = none → Well K p N B H → N + c ≤ 100000 → ∀ Q : List V → Hp → Prop,
    (∀ vs ts H' B', R ts → Ext B0 H0 B' H' → Keep K p B H B' H' → Well K p (N + c) B' H' → Ents K B' vs ts → Q vs H') → ta σ H Q
theorem wa_nil : WA K p 0 tNil G (· = []) := fun N σ B H B0 H0 e X n0 w hN Q k => k [] [] H B rfl X (Keep.of (Ext.refl X.le)) w .nil
theorem wa_cons {ta : TA} {R : Ent → Prop} {S : List Ent → Prop} (h : WE K p c1 te G R) (hr : WA K p c2 ta G S) : WA K p (c1 + c2) (tCons te ta) G fun ts => ∃ t us, ts = t :: us ∧ R t ∧ S us := fun N σ B H B0 H0 e X n0 w hN Q k =>
  h N σ B H B0 H0 e X n0 w (by omega) _ fun v t H1 B1 rt X1 kp w1 r1 => hr (N + c1) σ B1 H1 B0 H0 (e.mono kp.bb) X1 n0 w1 (by omega) _ fun vs ts H2 B2 rs X2 kp2 w2 r2 =>
    k _ _ H2 B2 ⟨t, ts, rfl, rt, rs⟩ X2 (kp.trans kp2) (by rw [← Nat.add_assoc]; exact w2) (.cons (r1.mono kp2.bb) r2)
theorem EvA.wa {ta : TA} {ds : List D} (h : EvA K ta G ds) : WA K p 0 ta G (· = ds.map Ent.dat) := fun N σ B H B0 H0 e X n0 w hN Q k => h σ B H e X.le _ fun vs H1 B1 x1 r1 => k vs _ H1 B1 rfl (X.trans x1) (Keep.of x1) (w.ext x1) (by
  exact ents_of r1)
theorem we_call {α : Type} {ds : α → List Ent} {pre : α → Prop} {R : α → Ent → Prop} {S : List Ent → Prop} {T : Ent → Prop} {ta : TA} {E : XK} (h : WA K p c1 ta G S) (hS : ∀ ts, S ts → ∃ x, ts = .val (.ref p) :: ds x ∧ pre x ∧ ∀ t, R x t → T t) : WE K p (c1 + c) (tCall (spW K c ds pre R) [] E ta) G T := fun N σ B H B0 H0 e X n0 w hN Q k =>
  h N σ B H B0 H0 e X n0 w (by omega) _ fun vs ts H1 B1 rs X1 kp w1 r1 => by
    obtain ⟨x, rfl, px, hT⟩ := hS ts rs
    show spW K c ds pre R (vs ++ []) H1 Q E
    rw [List.append_nil]
    refine ⟨x, p, N + c1, B1, r1, X1.le, w1, by omega, px, fun v t H2 B2 rt Y w2 r2 => ?_⟩
    have n1 : ∀ a ∈ [p], H0 a = none := fun a ha => by rw [List.mem_singleton.mp ha]; exact n0
    refine k v t H2 B2 (hT t rt) (X1.over n1 Y) ⟨kp.bb.trans Y.bb, fun q es ne o => (kp.own q es ne o).over (by simpa using ne) Y⟩ (by rw [← Nat.add_assoc]; exact w2) r2
/-- statements -/
theorem sw_asg {R : Ent → Prop} (h : WE K p c te G R) (e : Env K B σ G) (X : Ext B0 H0 B H) (n0 : H0 p = none) (w : Well K p N B H) (hN : N + c ≤ 100000) (k : ∀ t σ' H' B', R t → Ext B0 H0 B' H' → Keep K p B H B' H' → Well K p (N + c) B' H' → Env K B' σ' (G.set i t) → De.nx σ' H') : tAsg te (gName i) De σ H :=
  h N σ B H B0 H0 e X n0 w hN _ fun v t H' B' rt X' kp w' r => k t _ H' B' rt X' kp w' ((e.mono kp.bb).set r)
theorem sw_ret {R : Ent → Prop} (h : WE K p c te G R) (e : Env K B σ G) (X : Ext B0 H0 B H) (n0 : H0 p = none) (w : Well K p N B H) (hN : N + c ≤ 100000) (k : ∀ v t H' B', R t → Ext B0 H0 B' H' → Well K p (N + c) B' H' → EntOk K B' (some (some v)) t → De.rt v H') : tRet te De σ H :=
  h N σ B H B0 H0 e X n0 w hN _ fun v t H' B' rt X' kp w' r => k v t H' B' rt X' w' r
end
section
variable {P : Program} {w : World} {K : PySem.W.Frag} {mg : Str → Option Value} {base : Heap} {x qual : Str} {st : Stmt} {f : Addr} {fd : FuncData} {N ps : List Str} {k c : Nat} {α : Type} {ds : α → List Ent} {pre : α → Prop} {R : α → Ent → Prop}
theorem okW (F : L2.Fun K x qual st f fd) (S : FnScope N ps (defScope st)) (hl : ∀ a, (ds a).length + 1 = ps.length) (hN : ps.length ≤ N.length)
    (body : ∀ (a : α) (p : Addr) (M : Nat) (cdv : Value) (A : Around) (outer : List PySem.Env) (s : Shared) (H : Hp) (σ0 : L2.St) (Q : VK) (E : XK) (B B0 H0 : Hp), Room k (A.deeper (envOfC qual (defScope st) s.heap.objs.size f cdv)) → pre a → Ext B0 H0 B H → H0 p = none → Well K p M B H → M + c ≤ 100000 →
      Env K B σ0 (.val (.ref p) :: ds a ++ List.replicate (N.length - ps.length) Ent.no) → (∀ v t H' B', R a t → Ext B0 H0 B' H' → Well K p (M + c) B' H' → EntOk K B' (some (some v)) t → Q v H') →
      ∃ t, PSs (cxOf CX0 P w K mg base N qual (defScope st) f cdv A outer s H E).nox (defBody st) t ∧ t { nx := fun _ H' => Q .non H', rt := Q } σ0 H) : FnOk P w K mg base CX0 (k + 1) f fd ps (spW K c ds pre R) := by
  refine F.ok S (fun vs H Q E h => ?_) (fun cdv A outer s H vs Q E hr h => ?_)
  · obtain ⟨a, p, M, B, r, _⟩ := h
    rw [r.len, List.length_cons, hl]
  · obtain ⟨a, p, M, B, r, eb, wl, hM, pa, q⟩ := h
    have e := env_ents (N := N) r (by rw [List.length_cons, hl]; exact hN)
    rw [List.length_cons, hl] at e
    have b0 : B p = none := by obtain ⟨_, _, _, o, _⟩ := wl; exact o.1
    exact body a p M cdv A outer s H _ Q E B B (hideH H [p]) hr pa (Ext.base eb fun z hz => by rw [List.mem_singleton.mp hz]; exact b0) (hide_in (by simp)) wl hM e q
end
end Wk
-- R19
namespace Wk
open PySem PySem.Spec PyProof.Rows L2 Evl
theorem dps_of {K : PySem.W.Frag} {B : Hp} : ∀ {ds : List D} {vs : List V}, Ents K B vs (ds.map Ent.dat) → DpAll K B vs ds
  | [], _, .nil => .nil
  | _ :: _, _, .cons a b => .cons (dat_ok a) (dps_of b)
section
variable {K : PySem.W.Frag} {G : Gam} {te ta tb tl : TE} {tt : TT} {d : D} {i j : Nat} {t u : Ent} {σ : L2.St} {B H B0 H0 : Hp} {De : Ends} {tu tw : TS} {p : Addr} {z : Int} {b : Bool} {c c1 c2 N M : Nat}
theorem WA.le {ta : TA} {R S : List Ent → Prop} (h : WA K p c ta G R) (hc : c ≤ c1) (hR : ∀ ts, R ts → S ts) : WA K p c1 ta G S := fun N σ B H B0 H0 e X n0 w hN Q k => h N σ B H B0 H0 e X n0 w (by omega) Q fun vs ts H1 B1 r X1 kp w1 ok => k vs ts H1 B1 (hR ts r) X1 kp (w1.mono (by omega)) ok
theorem we_lst {ta : TA} {S : List D → Prop} (h : WA K p c ta G fun ts => ∃ ds, ts = ds.map Ent.dat ∧ S ds) (hl : ∀ ds, S ds → ds.length ≤ 100000) : WE K p c (tLst ta) G fun t => ∃ ds, t = .dat (.list ds) ∧ S ds := fun N σ B H B0 H0 e X n0 w hN Q k =>
  h N σ B H B0 H0 e X n0 w hN _ fun vs ts H1 B1 ⟨ds, et, hs⟩ X1 kp w1 r1 => by
    subst et
    have rs := dps_of r1
    refine ⟨by rw [dps_len rs]; exact sz_of (hl ds hs), fun q hq => ?_⟩
    have xn : Ext B1 H1 (upd B1 q (.lst vs)) (upd H1 q (.lst vs)) := Ext.new X1.le hq
    exact k _ _ _ _ ⟨ds, rfl, hs⟩ (X1.trans xn) (kp.trans (Keep.of xn)) (w1.ext xn) (ok_dat (.lst (SqL.of upd_same) (dps_mono xn.bb ds rs)))
theorem we_tup {ta : TA} {S : List D → Prop} (h : WA K p c ta G fun ts => ∃ ds, ts = ds.map Ent.dat ∧ S ds) (hl : ∀ ds, S ds → ds.length ≤ 100000) : WE K p c (tTup ta) G fun t => ∃ ds, t = .dat (.tuple ds) ∧ S ds := fun N σ B H B0 H0 e X n0 w hN Q k =>
  h N σ B H B0 H0 e X n0 w hN _ fun vs ts H1 B1 ⟨ds, et, hs⟩ X1 kp w1 r1 => by
    subst et
    have rs := dps_of r1
    refine ⟨by rw [dps_len rs]; exact sz_of (hl ds hs), fun q hq => ?_⟩
    have xn : Ext B1 H1 (upd B1 q (.tup vs)) (upd H1 q (.tup vs)) := Ext.new X1.le hq
    exact k _ _ _ _ ⟨ds, rfl, hs⟩ (X1.trans xn) (kp.trans (Keep.of xn)) (w1.ext xn) (ok_dat (.tup (st_of upd_same) (dps_mono xn.bb ds rs)))
end
end Wk
-- R20
namespace Wk
open PySem PySem.Spec PyProof.Rows L2 Evl
section
variable {K : PySem.W.Frag} {G : Gam} {te : TE} {g : TG} {wi : TI} {js vs : List Nat} {n : Nat} {up : Nat → Gam → Gam} {p : Addr} {c : Nat} {R : Nat → D → Prop}
theorem we_lc (w : EvW K wi g js G n up) (hn : n ≤ 1000) (hjs : ∀ j ∈ js, j ∈ vs) (he : ∀ i, i < n → WE K p c te (up i (wipeG G vs)) fun t => ∃ d, t = .dat d ∧ R i d) :
    WE K p (n * c) (tLc wi g tYes te vs) G fun t => ∃ ds, t = .dat (.list ds) ∧ ds.length = n ∧ ∀ i d, ds[i]? = some d → R i d := fun N σ B H B0 H0 e X n0 wl hN Q k => w σ B H e X.le _ fun J H1 B1 e1 T L hL => by
  have X1 := X.trans e1
  have w1 := wl.ext e1
  have eW : ∀ {B' : Hp}, Ex B1 B' → Env K B' (L2.wipe σ vs) (wipeG G vs) := fun h => ((e.mono e1.bb).mono h).wipe vs
  have n0L : H0 L = none := fresh_back X1.ex hL
  have neL : L ≠ p := by
    obtain ⟨_, _, _, ⟨_, xs, hp, _⟩, _⟩ := w1
    rintro rfl
    rw [hp] at hL
    cases hL
  have step : ∀ i, i * c + c = (i + 1) * c := fun i => (Nat.succ_mul i c).symm
  have bnd : ∀ i, i < n → i * c + c ≤ n * c := fun i hi => by rw [step]; exact Nat.mul_le_mul_right c hi
  let St : Nat → Hp → Prop := fun i H' => ∃ B' ds, Ext B0 H0 B' H' ∧ Ex B1 B' ∧ Keep K p B H B' H' ∧ Own K L ds B' H' ∧ ds.length = i ∧ (∀ j d, ds[j]? = some d → R j d) ∧ Well K p (N + i * c) B' H'
  refine ⟨fun i m H' => m = n - i ∧ i ≤ n ∧ St i H', ⟨n, by simp, Nat.zero_le _, B1, [], X1.trans (Ext.hide e1.le hL), Ex.refl B1, Keep.of (e1.trans (Ext.hide e1.le hL)), ⟨fresh_back e1.le hL, [], upd_same, .nil⟩, rfl, (fun j d h => by simp at h), by rw [Nat.zero_mul]; exact w1.ext (Ext.hide e1.le hL)⟩, fun i m H' z => ?_⟩
  obtain ⟨rfl, hi, B', ds, X', b', kp, o', len, hR, w'⟩ := z
  by_cases hlt : i < n
  · refine .inr ⟨T.go i H' hlt (b'.trans X'.le), fun H2 => St (i + 1) H2, fun H2 z => ⟨n - (i + 1), by omega, rfl, hlt, z⟩, fun x H2 y => ?_⟩
    obtain ⟨x2, tk⟩ := T.yld i x B' H' H2 hlt b' X'.le y
    refine tk _ _ (eW b') _ fun σ2 e2 wp => ⟨(wp vs hjs).trans wipe_wipe, ?_⟩
    have X2 := X'.trans x2
    unfold tYes
    dsimp only
    rw [if_pos rfl]
    refine (he i hlt (N + i * c) σ2 B' H2 B0 H0 e2 X2 n0 (w'.ext x2) (by have := bnd i hlt; omega) _ fun v t H4 B4 ⟨d, et, rd⟩ X4 kp4 w4 r => ?_)
    subst et
    obtain ⟨u4, xs, h4, rx⟩ := kp4.own L ds neL (o'.ext x2)
    have l4 : xs.length < sizeLine := by
      rw [dps_len rx]
      exact sz_lt (by omega)
    refine ⟨xs, h4, l4, B4, ds ++ [d], X4.mut n0L u4, b'.trans (x2.bb.trans kp4.bb), ⟨kp.bb.trans (x2.bb.trans kp4.bb), fun q es ne oq => ?_⟩, ⟨u4, _, upd_same, dps_app rx (.cons (dat_ok r) .nil)⟩, by rw [List.length_append, len]; rfl, fun j d' hd => ?_, ?_⟩
    · have q4 := kp4.own q es ne ((kp.own q es ne oq).ext x2)
      have nq : q ≠ L := by
        rintro rfl
        obtain ⟨_, ys, hy, _⟩ := oq.ext e1
        rw [hy] at hL
        cases hL
      obtain ⟨a, ys, hy, ry⟩ := q4
      exact ⟨a, ys, by rw [upd_ne nq]; exact hy, ry⟩
    · by_cases hj : j < ds.length
      · rw [List.getElem?_append_left hj] at hd
        exact hR j d' hd
      · have hl := (List.getElem?_eq_some_iff.mp hd).1
        rw [List.length_append] at hl
        have : j = ds.length := by simp at hl; omega
        subst this
        rw [List.getElem?_append_right (Nat.le_refl _), Nat.sub_self] at hd
        cases hd
        rw [len]
        exact rd
    · obtain ⟨a, b, c', o4, q1, q2, q3, q4⟩ := w4
      obtain ⟨u, ys, hy, ry⟩ := o4
      exact ⟨a, b, c', ⟨u, ys, by rw [upd_ne (fun z => neL z.symm)]; exact hy, ry⟩, q1, q2, q3, by rw [← step]; omega⟩
  · have ei : i = n := by omega
    subst ei
    obtain ⟨u, xs, h4, rx⟩ := o'
    refine .inl ⟨T.stop H' (b'.trans X'.le), ?_⟩
    obtain ⟨_, X5, bb⟩ := reveal (eW b') X' n0L u h4
    refine k (.ref L) _ H' _ ⟨ds, rfl, len, hR⟩ X5 ⟨kp.bb.trans bb, fun q es ne oq => ?_⟩ ?_ (ok_dat (dp_shown u rx))
    · have nq : q ≠ L := by
        rintro rfl
        obtain ⟨_, ys, hy, _⟩ := oq.ext e1
        rw [hy] at hL
        cases hL
      obtain ⟨a, ys, hy, ry⟩ := kp.own q es ne oq
      exact ⟨by rw [upd_ne nq]; exact a, ys, hy, dps_mono bb _ ry⟩
    · obtain ⟨a, b, c', ⟨u2, ys, hy, ry⟩, q1, q2, q3, q4⟩ := w'
      exact ⟨a, b, c', ⟨by rw [upd_ne (fun z => neL z.symm)]; exact u2, ys, hy, dps_mono bb _ ry⟩, q1, q2, q3, q4⟩
end
end Wk
-- R21
namespace Wk
open PySem PySem.Spec PyProof.Rows L2 Evl
section
variable {K : PySem.W.Frag} {G : Gam} {te : TE} {tt : TT} {i : Nat} {t u : Ent} {σ : L2.St} {B H : Hp} {De : Ends} {b : Bool}
theorem s_ifSet (h : EvT K tt G b) (h1 : b = true → Ev K te G u) (hg : G[i]? = some t) (e : Env K B σ G) (eb : Ex B H) (k : ∀ σ' H' B', Ext B H B' H' → Env K B' σ' (G.set i (if b = true then u else t)) → De.nx σ' H') : tIfS tt (tAsg te (gName i)) tNext De σ H :=
  s_if h e eb (fun hb H1 B1 x1 e1 => s_asg (h1 hb) e1 x1.le fun σ2 H2 B2 x2 e2 => k σ2 H2 B2 (x1.trans x2) (by rw [if_pos hb]; exact e2)) fun hb H1 B1 x1 e1 => by
    dsimp only [tNext]
    refine k σ H1 B1 x1 ?_
    have ge : G.set i t = G := by
      apply List.ext_getElem?
      intro j
      by_cases q : i = j
      · subst q
        rw [List.getElem?_set_self (List.getElem?_eq_some_iff.mp hg).1, hg]
      · rw [List.getElem?_set_ne q]
    rw [if_neg (by rw [hb]; decide), ge]
    exact e1
end
end Wk
-- R22
namespace Wk
open PySem PySem.Spec PyProof.Rows L2 Evl
section
variable {K : PySem.W.Frag} {G : Gam} {te ta tb tc tl : TE} {tt : TT} {d : D} {i j l : Nat} {t u : Ent} {σ : L2.St} {B H B0 H0 : Hp} {De : Ends} {tu tw tbd : TS} {g : TG} {p : Addr} {b : Bool} {c c1 c2 c3 N M : Nat}
theorem Well.keep {q : Addr} {B' H' : Hp} (w : Well K p N B H) (kp : Keep K q B H B' H') (ne : p ≠ q) : Well K p N B' H' := let ⟨a, b, c, o, r⟩ := w; ⟨a, b, c, kp.own p _ ne o, r⟩
theorem Well.own {B' : Hp} (w : Well K p N B H) (kp : ∀ q es, q ≠ i → Own K q es B H → Own K q es B' H) (ne : p ≠ i) : Well K p N B' H := let ⟨a, b, c, o, r⟩ := w; ⟨a, b, c, kp p _ ne o, r⟩
theorem Well.ne (w : Well K p N B H) : H p ≠ none := let ⟨_, _, _, ⟨_, xs, hp, _⟩, _⟩ := w; by rw [hp]; exact fun z => nomatch z
theorem Well.neq {q : Addr} (w : Well K p N B H) (h : H q = none) : q ≠ p := fun z => w.ne (by rw [← z]; exact h)
theorem sw_par {R S : Ent → Prop} (h1 : WE K p c1 ta G R) (h2 : WE K p c2 te G S) (e : Env K B σ G) (X : Ext B0 H0 B H) (n0 : H0 p = none) (w : Well K p N B H) (hN : N + (c1 + c2) ≤ 100000)
    (k : ∀ t u σ' H' B', R t → S u → Ext B0 H0 B' H' → Keep K p B H B' H' → Well K p (N + (c1 + c2)) B' H' → Env K B' σ' ((G.set i t).set j u) → De.nx σ' H') : tPar i j (tCons ta (tCons te tNil)) De σ H :=
  h1 N σ B H B0 H0 e X n0 w (by omega) _ fun v t H1 B1 rt X1 kp1 w1 r1 => h2 (N + c1) σ B1 H1 B0 H0 (e.mono kp1.bb) X1 n0 w1 (by omega) _ fun v2 u H2 B2 ru X2 kp2 w2 r2 =>
    ⟨v, v2, rfl, k t u _ H2 B2 rt ru X2 (kp1.trans kp2) (by rw [← Nat.add_assoc]; exact w2) (((e.mono (kp1.bb.trans kp2.bb)).set (r1.mono kp2.bb)).set r2)⟩
theorem sw_tup {R S : Ent → Prop} (h1 : WE K p c1 ta G R) (h2 : WE K p c2 te G S) (e : Env K B σ G) (X : Ext B0 H0 B H) (n0 : H0 p = none) (w : Well K p N B H) (hN : N + (c1 + c2) ≤ 100000)
    (k : ∀ t u σ' H' B', R t → S u → Ext B0 H0 B' H' → Keep K p B H B' H' → Well K p (N + (c1 + c2)) B' H' → Env K B' σ' ((G.set i t).set j u) → De.nx σ' H') : tAsg (tTup (tCons ta (tCons te tNil))) (gPair K i j) De σ H :=
  h1 N σ B H B0 H0 e X n0 w (by omega) _ fun v t H1 B1 rt X1 kp1 w1 r1 => h2 (N + c1) σ B1 H1 B0 H0 (e.mono kp1.bb) X1 n0 w1 (by omega) _ fun v2 u H2 B2 ru X2 kp2 w2 r2 => ⟨sz_of (n := 2) (by decide), fun T hT =>
    have xh := Ext.hide (o := .tup [v, v2]) X2.le hT
    ⟨T, [v, v2], rfl, st_of upd_same, rfl, v, [v2], rfl, v2, [], rfl, rfl, k t u _ _ B2 rt ru (X2.trans xh) ((kp1.trans kp2).trans (Keep.of xh)) (by rw [← Nat.add_assoc]; exact w2.ext xh) (((e.mono (kp1.bb.trans kp2.bb)).set (r1.mono kp2.bb)).set r2)⟩⟩
theorem sw_tup3 {R S T : Ent → Prop} (h1 : WE K p c1 ta G R) (h2 : WE K p c2 tb G S) (h3 : WE K p c3 tc G T) (e : Env K B σ G) (X : Ext B0 H0 B H) (n0 : H0 p = none) (w : Well K p N B H) (hN : N + (c1 + c2 + c3) ≤ 100000)
    (k : ∀ t u v σ' H' B', R t → S u → T v → Ext B0 H0 B' H' → Keep K p B H B' H' → Well K p (N + (c1 + c2 + c3)) B' H' → Env K B' σ' (((G.set i t).set j u).set l v) → De.nx σ' H') : tAsg (tTup (tCons ta (tCons tb (tCons tc tNil)))) (gTup K 3 (gCons (gName i) (gCons (gName j) (gCons (gName l) gNil)))) De σ H :=
  h1 N σ B H B0 H0 e X n0 w (by omega) _ fun v t H1 B1 rt X1 kp1 w1 r1 => h2 (N + c1) σ B1 H1 B0 H0 (e.mono kp1.bb) X1 n0 w1 (by omega) _ fun v2 u H2 B2 ru X2 kp2 w2 r2 => h3 (N + c1 + c2) σ B2 H2 B0 H0 (e.mono (kp1.bb.trans kp2.bb)) X2 n0 w2 (by omega) _ fun v3 z H3 B3 rz X3 kp3 w3 r3 => ⟨sz_of (n := 3) (by decide), fun T hT =>
    have xh := Ext.hide (o := .tup [v, v2, v3]) X3.le hT
    ⟨T, [v, v2, v3], rfl, st_of upd_same, rfl, v, [v2, v3], rfl, v2, [v3], rfl, v3, [], rfl, rfl, k t u z _ _ B3 rt ru rz (X3.trans xh) (((kp1.trans kp2).trans kp3).trans (Keep.of xh)) (by rw [← Nat.add_assoc, ← Nat.add_assoc]; exact w3.ext xh) ((((e.mono ((kp1.bb.trans kp2.bb).trans kp3.bb)).set (r1.mono (kp2.bb.trans kp3.bb))).set (r2.mono kp3.bb)).set r3)⟩⟩
/-- for .. in range(what is drawn) -/
theorem sw_rng {R : Int → Prop} (h : WE K p c te G fun t => ∃ x, t = .dat (.int x) ∧ R x) (e : Env K B σ G) (X : Ext B0 H0 B H) (n0 : H0 p = none) (w : Well K p N B H) (hN : N + c ≤ 100000)
    (k : ∀ x H1 B1, R x → Ext B0 H0 B1 H1 → Keep K p B H B1 H1 → Well K p (N + c) B1 H1 → tFor (iRng1 (tCons (tC (.int x)) tNil)) g tbd De σ H1) : tFor (iRng1 (tCons te tNil)) g tbd De σ H :=
  h N σ B H B0 H0 e X n0 w hN _ fun v t H1 B1 ⟨x, et, hx⟩ X1 kp w1 r => by
    subst et
    rw [dp_int (dat_ok r)]
    exact k x H1 B1 hx X1 kp w1
theorem we_if {R : Ent → Prop} (h : EvT K tt G b) (h1 : b = true → WE K p c ta G R) (h2 : b = false → WE K p c tb G R) : WE K p c (tIf tt ta tb) G R := fun N σ B H B0 H0 e X n0 w hN Q k => h σ B H e X.le _ fun H1 B1 x1 => by
  cases b with
  | true => exact h1 rfl N σ B1 H1 B0 H0 (e.mono x1.bb) (X.trans x1) n0 (w.ext x1) hN Q fun v t H' B' r X' kp w' ok => k v t H' B' r X' ((Keep.of x1).trans kp) w' ok
  | false => exact h2 rfl N σ B1 H1 B0 H0 (e.mono x1.bb) (X.trans x1) n0 (w.ext x1) hN Q fun v t H' B' r X' kp w' ok => k v t H' B' r X' ((Keep.of x1).trans kp) w' ok
/-- a, b = a pair that comes by drawing -/
theorem sw_unp {S : D → D → Prop} (h : WE K p c te G fun t => ∃ a b, t = .dat (.tuple [a, b]) ∧ S a b) (e : Env K B σ G) (X : Ext B0 H0 B H) (n0 : H0 p = none) (w : Well K p N B H) (hN : N + c ≤ 100000)
    (k : ∀ a b σ' H' B', S a b → Ext B0 H0 B' H' → Keep K p B H B' H' → Well K p (N + c) B' H' → Env K B' σ' ((G.set i (.dat a)).set j (.dat b)) → De.nx σ' H') : tAsg te (gPair K i j) De σ H :=
  h N σ B H B0 H0 e X n0 w hN _ fun v t H1 B1 ⟨a, b, et, s⟩ X1 kp w1 r => by
    subst et
    obtain ⟨q, xs, rfl, sq, rx⟩ := dp_sq (k := false) (dat_ok r)
    obtain ⟨x, y, rfl, r1, r2⟩ := dps2 rx
    exact pair_target (ex_t X1.le sq) r1 r2 σ _ (e.mono kp.bb) _ fun σ2 e2 _ => k a b σ2 H1 B1 s X1 kp w1 e2
/-- an if whose ways join in J -/
theorem s_ifJ (J : L2.St → Hp → Prop) (h : EvT K tt G b) (e : Env K B σ G) (eb : Ex B H) (kj : ∀ σ' H', J σ' H' → De.nx σ' H') (h1 : b = true → ∀ H' B', Ext B H B' H' → Env K B' σ G → (∀ σ' H', J σ' H' → De.nx σ' H') → tu De σ H') (h2 : b = false → ∀ H' B', Ext B H B' H' → Env K B' σ G → (∀ σ' H', J σ' H' → De.nx σ' H') → tw De σ H') : tIfS tt tu tw De σ H :=
  s_if h e eb (fun hb H' B' x e' => h1 hb H' B' x e' kj) fun hb H' B' x e' => h2 hb H' B' x e' kj
/-- numbers that are drawn -/
theorem WE.int {R : Int → Prop} (h : WE K p c te G fun t => ∃ x, t = .dat (.int x) ∧ R x) : WE K p c te G fun t => ∃ d, t = .dat d ∧ ∃ x, d = .int x ∧ R x := h.le (Nat.le_refl _) fun t ⟨x, et, hx⟩ => ⟨t, by cases t <;> first | rfl | trivial, .int x, et, x, rfl, hx⟩
theorem Ev.weD (h : ED K te G d) : WE K p 0 te G fun t => ∃ x, t = .dat x ∧ x = d := (Ev.we h).le (Nat.le_refl _) fun t et => ⟨t, by rw [et]; rfl, d, et, rfl⟩
theorem WE.imp {R S : Ent → Prop} (h : WE K p c te G R) (k : ∀ t, R t → S t) : WE K p c te G S := h.le (Nat.le_refl _) fun t r => ⟨t, by cases t <;> first | rfl | trivial, k t r⟩
theorem WE.up {R : Ent → Prop} (h : WE K p c te G R) (k : c ≤ c1) : WE K p c1 te G R := h.le k fun t r => ⟨t, by cases t <;> first | rfl | trivial, r⟩
end
end Wk
-- R23
namespace Wk
open PySem PySem.Spec PyProof.Rows L2 Evl
section
variable {X : Cx} {CX : CXT} {k n : Nat} {f : Addr} {fd : FuncData} {ps ks : List Str} {sp : Sp} {E : XK} {x : Str} {p pos : Pos} {kws : List Keyword} {tk : TA} {g : List Value → List Value → List Value} {gV : List V → List V → List V}
theorem pe_callN0 (F : FnOk X.prog X.w X.K X.mg X.base CX k f fd ps sp) (hr : Room k X.A) (hg : Gl X x) (hm : X.mg x = some (.ref f)) (hk : PySem.W.keepIn X.K (.ref f) = true) (hb : KBn X.K fd ps 0 ks g gV) (hx : Passes CX X E)
    (hkw : PK X kws tk) (hall : (backToKw pos (keywordEach kws X.env)).all (·.1.isSome) = true := by rfl) (hks : (backToKw pos (keywordEach kws X.env)).filterMap (·.1) = ks := by rfl)
    (hdb : (x == ("__debug__" : Str)) = false := by decide)
    (hpl : ((backTo pos (starEach [] X.env)).any (·.1) || (backToKw pos (keywordEach kws X.env)).any (·.1.isNone)) = false := by rfl) :
    PE X (.Call (.Name x p) [] kws pos) (tCallN 0 ks.length sp gV E tNil tk) := by
  refine ⟨fun pins s σ H Q I h => ?_⟩
  refine wpAny_Call_Name_kw (ld_glob I hg hm ?_ hdb)
  refine PySem.W.callWith_KW0 (h₀ := X.base) I.ok.mod.kin hk hall (thn (hkw.run pos pins s σ H _ I h) fun ws s2 ⟨zs, H2, I2, rz, l1, l2, q2⟩ => ⟨I2.kIn, ?_⟩) hpl
  rw [hks]
  exact run_fnN (us := []) (vs := []) F hr hb hx I2 .nil rz l1 l2 q2
end
/-- a def that may be called by its name with two keywords, in the other order -/
structure CalK (P : Program) (w : World) (K : PySem.W.Frag) (mg : Str → Option Value) (base : Heap) (k : Nat) (x : Str) (ks : List Str) (sp : Sp) : Prop where
  ex : ∃ (f : Addr) (fd : FuncData) (ps : List Str), FnOk P w K mg base CX0 k f fd ps sp ∧ mg x = some (.ref f) ∧ PySem.W.keepIn K (.ref f) = true ∧ KBn K fd ps 0 ks (fun _ ws => ws.reverse) (fun _ zs => zs.reverse)
theorem vals_rev : ∀ {vs : List V} {us : List Value}, Vals vs us → Vals vs.reverse us.reverse
  | _, _, .nil => .nil
  | _, _, .cons a b => by
    rw [List.reverse_cons, List.reverse_cons]
    exact (vals_rev b).append (.cons a .nil)
section
variable {X : Cx} {k j : Nat} {x : Str} {sp : Sp} {p pos : Pos} {ks : List Str} {kws : List Keyword} {tk : TA}
theorem pe_calK (c : CalK X.prog X.w X.K X.mg X.base k x ks sp) (hr : Room j X.A) (hk : k ≤ j) (hg : Gl X x) (hkw : PK X kws tk) (hall : (backToKw pos (keywordEach kws X.env)).all (·.1.isSome) = true := by rfl) (hks : (backToKw pos (keywordEach kws X.env)).filterMap (·.1) = ks := by rfl)
    (hdb : (x == ("__debug__" : Str)) = false := by decide)
    (hpl : ((backTo pos (starEach [] X.env)).any (·.1) || (backToKw pos (keywordEach kws X.env)).any (·.1.isNone)) = false := by rfl) :
    PE X (.Call (.Name x p) [] kws pos) (tCallN 0 ks.length sp (fun _ zs => zs.reverse) E0 tNil tk) := by
  obtain ⟨f, fd, ps, F, hm, kp, b⟩ := c.ex
  exact pe_callN0 F (hr.mono hk) hg hm kp b pass0 hkw hall hks hdb hpl
end
theorem fun_kb {K : PySem.W.Frag} {x qual : Str} {st : Stmt} {f : Addr} {fd : FuncData} {ps ks : List Str} (F : L2.Fun K x qual st f fd)
    (h : ∀ (kV doc pm : Value) (an : Option Addr) (cdv ct : Value) (us ws : List Value), us.length = 0 → ws.length = ks.length → bindArgs (PySem.W.fnOf x qual (defArgs st) (defBody st) (defScope st) .none kV doc pm an cdv ct) ⟨us, ks.zip ws⟩ = pure (ps.zip ws.reverse)) : KBn K fd ps 0 ks (fun _ ws => ws.reverse) (fun _ zs => zs.reverse) := by
  obtain ⟨oc, od, kV, doc, pm, an, cdv, ct, osl, rfl, lk, hcd⟩ := F.ex
  exact ⟨fun s us ws X l1 l2 => .of_eq (h kV doc pm an cdv ct us ws l1 l2), fun _ r => vals_rev r⟩
end Wk
-- R24
namespace Wk
open PySem PySem.Spec PyProof.Rows L2 Evl
section
variable {K : PySem.W.Frag} {G : Gam} {ta tb : TE} {ds : List D} {x : Int}
theorem dps_rep {H : Hp} {vs : List V} (h : DpAll K H vs ds) : ∀ n, DpAll K H (List.replicate n vs).flatten (List.replicate n ds).flatten
  | 0 => .nil
  | n + 1 => by
    rw [List.replicate_succ, List.replicate_succ, List.flatten_cons, List.flatten_cons]
    exact dps_app h (dps_rep h n)
theorem ev_repT (ha : ED K ta G (.tuple ds)) (hb : ED K tb G (.int x)) (hx : 1 ≤ x ∧ x ≤ 1000) (hne : ds ≠ []) (hl : ds.length ≤ 1000) : ED K (tOp (rRepB K) ta tb) G (.tuple (List.replicate x.toNat ds).flatten) := ev_op ha hb fun u w B H eb r1 r2 Q k => by
  obtain ⟨a, xs, rfl, s, rx⟩ := dp_sq (k := false) r1
  have el := dps_len rx
  rw [dp_int r2]
  by_cases h1 : x = 1
  · subst h1
    refine .inr ⟨a, xs, rfl, rfl, ex_t eb s, k _ H B (Ext.refl eb) ?_⟩
    have := dps_rep rx 1
    simp at this
    simp
    exact .tup s rx
  · refine .inl ⟨a, x, xs, rfl, rfl, ex_t eb s, ?_, by omega, by omega, by omega, fun p hp => ?_⟩
    · rintro rfl
      exact hne (List.eq_nil_of_length_eq_zero el.symm)
    · have xn : Ext B H (upd B p (.tup (List.replicate x.toNat xs).flatten)) (upd H p (.tup (List.replicate x.toNat xs).flatten)) := Ext.new eb hp
      exact k _ _ _ xn (.tup (st_of upd_same) (dps_mono xn.bb _ (dps_rep rx _)))
end
end Wk
-- R25
namespace Wk
open PySem PySem.Spec PyProof.Rows L2 Evl
section
variable {K : PySem.W.Frag} {G : Gam} {i : Nat} {t : Ent} {σ : L2.St} {B H : Hp}
theorem Env.put (e : Env K B σ G) (r : EntOk K B σ[i]? t) : Env K B σ (G.set i t) := by
  refine ⟨by rw [List.length_set, e.len], fun j => ?_⟩
  by_cases q : i = j
  · subst q
    by_cases hl : i < G.length
    · rw [List.getD_eq_getElem?_getD, List.getElem?_set_self hl]
      exact r
    · rw [List.set_eq_of_length_le (by omega)]
      exact e.at_ i
  · rw [List.getD_eq_getElem?_getD, List.getElem?_set_ne q, ← List.getD_eq_getElem?_getD]
    exact e.at_ j
theorem env_ent (e : Env K B σ G) (h : G[i]? = some t) : EntOk K B σ[i]? t := env_dat e h
end
end Wk
-- R26
namespace Wk
open PySem PySem.Spec PyProof.Rows L2 Evl
section
variable {K : PySem.W.Frag} {G : Gam} {te ta tl tp : TE} {g : TG} {wi : TI} {js vs : List Nat} {n m m2 c N : Nat} {up : Nat → Gam → Gam} {d : D} {ds es : List D} {i j a b : Nat} {t : Ent} {σ : L2.St} {B H B0 H0 : Hp} {De : Ends} {p q L : Addr} {y : Int} {xs : List V}
/-- an item of a list of one's own -/
theorem Own.ix (o : Own K p ds B H) (hi : G[i]? = some (.val (.ref p))) (e : Env K B σ G) (hj : G[j]? = some (.dat (.int (m : Int)))) (hm : ds[m]? = some d) (Q : VK) (k : ∀ v, Dp K B v d → Q v H) : tOp (rIx K) (tVar i) (tVar j) σ H Q := by
  obtain ⟨bp, xs, hp, r⟩ := o
  obtain ⟨w, hw, rw'⟩ := env_dat e hj
  obtain ⟨v, hv, rv⟩ := dps_get' r hm
  exact ⟨.ref p, env_dat e hi, w, hw, .inl ⟨p, xs, (m : Int), v, rfl, dp_int rw', SqL.of hp, atI_nat hv, k v rv⟩⟩
/-- a walk over what stands there now -/
theorem w_sq_at {k : Bool} {item : Nat → D} (h : ∀ Q : VK, (∀ v, Dp K B v (sqD k ds) → Q v H) → tl σ H Q) (eb : Ex B H) (hi : ∀ i, i < ds.length → ds[i]? = some (item i)) (R : It → Hp → Prop) (kk : ∀ J H1 B1, Ext B H B1 H1 → TurnsOk K J (gName j) [j] B1 ds.length (fun i G => G.set j (.dat (item i))) → R J H1) : iSq K tl σ H R := h _ fun v r => by
  obtain ⟨p, xs, rfl, s, rx⟩ := dp_sq r
  have el := dps_len rx
  refine ⟨p, rfl, ?_⟩
  cases k with
  | true =>
    refine .inl ⟨⟨xs, ex_l eb s⟩, kk _ H B (Ext.refl eb) ⟨fun i H h e => ⟨xs, xs[i], ex_l e s, by simp [el, h]⟩, fun H e => ⟨xs, ex_l e s, by omega⟩, fun i x B H H' h e eb yy => ?_⟩⟩
    obtain ⟨rfl, q⟩ := yy
    obtain ⟨d, e1, rd⟩ := dps_get rx (q xs (ex_l (e.trans eb) s))
    rw [hi i h] at e1
    cases e1
    exact ⟨Ext.refl eb, name_turn (dp_mono e _ rd)⟩
  | false =>
    refine .inr ⟨⟨xs, ex_t eb s⟩, kk _ H B (Ext.refl eb) ⟨fun i H h e => ⟨xs, xs[i], ex_t e s, by simp [el, h]⟩, fun H e => ⟨xs, ex_t e s, by omega⟩, fun i x B H H' h e eb yy => ?_⟩⟩
    obtain ⟨rfl, q⟩ := yy
    obtain ⟨d, e1, rd⟩ := dps_get rx (q xs (ex_t (e.trans eb) s))
    rw [hi i h] at e1
    cases e1
    exact ⟨Ext.refl eb, name_turn (dp_mono e _ rd)⟩
/-- a comprehension of new lists: the one at m stays one's own -/
theorem lcK {f : Nat → List D} (w : ∀ R : It → Hp → Prop, (∀ J H1 B1, Ext B H B1 H1 → TurnsOk K J g js B1 n up → R J H1) → wi σ H R) (hn : n ≤ 1000) (hjs : ∀ j ∈ js, j ∈ vs) (he : ∀ i, i < n → EvN K te (up i (wipeG G vs)) (f i)) (e : Env K B σ G) (hm : m < n) {Q : VK}
    (k : ∀ L q xs H' B', H L = none → H q = none → Ext B H B' H' → B' L = some (.lst xs) → Own K q (f m) B' H' → xs.length = n → xs[m]? = some (.ref q) → (∀ i v, i ≠ m → xs[i]? = some v → Dp K B' v (.list (f i))) → Q (.ref L) H') : tLc wi g tYes te vs σ H Q := w _ fun J H1 B1 e1 T L hL => by
  have eW : ∀ {B' : Hp}, Ex B1 B' → Env K B' (L2.wipe σ vs) (wipeG G vs) := fun h => ((e.mono e1.bb).mono h).wipe vs
  let St : Nat → Hp → Prop := fun i H' => ∃ B' xs, Ext B1 H1 B' H' ∧ B' L = none ∧ H' L = some (.lst xs) ∧ xs.length = i ∧ (∀ j v, j ≠ m → xs[j]? = some v → Dp K B' v (.list (f j))) ∧ (m < i → ∃ q, H1 q = none ∧ q ≠ L ∧ xs[m]? = some (.ref q) ∧ Own K q (f m) B' H')
  refine ⟨fun i mm H' => mm = n - i ∧ i ≤ n ∧ St i H', ⟨n, by simp, Nat.zero_le _, B1, [], Ext.hide e1.le hL, fresh_back e1.le hL, upd_same, rfl, (fun j v _ h => by simp at h), fun h => absurd h (Nat.not_lt_zero m)⟩, fun i mm H' z => ?_⟩
  obtain ⟨rfl, hi, B', xs, X', u', h', len, hd, hq⟩ := z
  by_cases hlt : i < n
  · refine .inr ⟨T.go i H' hlt (X'.bb.trans X'.le), fun H2 => St (i + 1) H2, fun H2 z => ⟨n - (i + 1), by omega, rfl, hlt, z⟩, fun x H2 y => ?_⟩
    obtain ⟨x2, tk⟩ := T.yld i x B' H' H2 hlt X'.bb X'.le y
    refine tk _ _ (eW X'.bb) _ fun σ2 e2 wp => ⟨(wp vs hjs).trans wipe_wipe, ?_⟩
    unfold tYes
    dsimp only
    rw [if_pos rfl]
    refine he i hlt σ2 B' H2 e2 x2.le _ fun p ys H4 B4 hp x4 h4 b4 r4 => ?_
    have x24 := x2.trans x4
    have h4L := x24.ex L _ h'
    have u4 := x24.hid L (by rw [h']; trivial) u'
    have nepL : p ≠ L := by
      rintro rfl
      rw [x2.ex _ _ h'] at hp
      cases hp
    have l4 : xs.length < sizeLine := by rw [len]; exact sz_lt (by omega)
    have p1 : H1 p = none := fresh_back (X'.trans x2).ex hp
    by_cases him : i = m
    · refine ⟨xs, h4L, l4, B4, xs ++ [.ref p], (X'.trans x24).mut hL u4, u4, upd_same, by rw [List.length_append, len]; rfl, fun j v jm hv => ?_, fun _ => ⟨p, p1, nepL, ?_, Own.keepU ⟨b4, ys, h4, him ▸ r4⟩ nepL⟩⟩
      · by_cases hj : j < xs.length
        · rw [List.getElem?_append_left hj] at hv
          exact dp_mono x24.bb _ (hd j v jm hv)
        · have hl := (List.getElem?_eq_some_iff.mp hv).1
          rw [List.length_append] at hl
          simp at hl
          omega
      · rw [List.getElem?_append_right (by omega), show m - xs.length = 0 by omega]
        rfl
    · have sx := see hp b4 x4 h4
      have u5 : L2.upd B4 p (.lst ys) L = none := by rw [upd_ne (fun z => nepL z.symm)]; exact u4
      refine ⟨xs, h4L, l4, L2.upd B4 p (.lst ys), xs ++ [.ref p], (X'.trans (x2.trans sx)).mut hL u5, u5, upd_same, by rw [List.length_append, len]; rfl, fun j v jm hv => ?_, fun hmi => ?_⟩
      · by_cases hj : j < xs.length
        · rw [List.getElem?_append_left hj] at hv
          exact dp_mono (x2.trans sx).bb _ (hd j v jm hv)
        · have hl := (List.getElem?_eq_some_iff.mp hv).1
          rw [List.length_append] at hl
          simp at hl
          have hji : j = xs.length := by omega
          subst hji
          rw [List.getElem?_append_right (Nat.le_refl _), Nat.sub_self] at hv
          cases hv
          rw [len]
          exact dp_shown b4 r4
      · obtain ⟨q, q1, qL, hqx, oq⟩ := hq (by omega)
        refine ⟨q, q1, qL, ?_, (oq.ext (x2.trans sx)).keepU qL⟩
        rw [List.getElem?_append_left (by omega)]
        exact hqx
  · have ei : i = n := by omega
    subst ei
    obtain ⟨q, q1, qL, hqx, oq⟩ := hq hm
    have xx := e1.trans X'
    refine .inl ⟨T.stop H' (X'.bb.trans X'.le), k L q xs H' (L2.upd B' L (.lst xs)) (fresh_back e1.ex hL) (fresh_back e1.ex q1) (see (fresh_back e1.ex hL) u' xx h') upd_same ?_ len hqx fun i v im hv => dp_mono (Ex.new u') _ (hd i v im hv)⟩
    obtain ⟨bq, ys, hy, ry⟩ := oq
    exact ⟨by rw [upd_ne qL]; exact bq, ys, hy, dps_mono (Ex.new u') _ ry⟩
/-- rows[k][j] = rows[k][j] + what is drawn -/
theorem s_cellW {R : Int → Prop} (hp : WE K p c tp G fun t => ∃ x, t = .dat (.int x) ∧ R x) (e : Env K B σ G) (X : Ext B0 H0 B H) (n0 : H0 p = none) (w : Well K p N B H) (hN : N + c ≤ 100000) (gl : G[i]? = some (.val (.ref L))) (gk : G[a]? = some (.dat (.int (m : Int)))) (gj : G[b]? = some (.dat (.int (m2 : Int))))
    (hL : B L = some (.lst xs)) (hx : xs[m]? = some (.ref q)) (o : Own K q ds B H) (hd : ds[m2]? = some (.int y)) (nq : H0 q = none) (ne : q ≠ p)
    (k : ∀ z H' B', R z → Ext B0 H0 B' H' → Ex B B' → Own K q (ds.set m2 (.int (y + z))) B' H' → Well K p (N + c) B' H' → (∀ q2 es, q2 ≠ p → q2 ≠ q → Own K q2 es B H → Own K q2 es B' H') → Env K B' σ G → De.nx σ H') :
    tAsg (tOp (rI0 fun i j => .int (i + j)) (tOp (rIx K) (tOp (rIx K) (tVar i) (tVar a)) (tVar b)) tp) (gSub (tOp (rIx K) (tVar i) (tVar a)) (tVar b) rSetL) De σ H := by
  have ref_at : ∀ {B H : Hp}, Env K B σ G → Ex B H → B L = some (.lst xs) → ∀ Q : VK, Q (.ref q) H → tOp (rIx K) (tVar i) (tVar a) σ H Q := fun e eb hL Q k => by
    obtain ⟨w, hw, rw'⟩ := env_dat e gk
    exact ⟨.ref L, env_dat e gl, w, hw, .inl ⟨L, xs, (m : Int), .ref q, rfl, dp_int rw', SqL.of (eb L _ hL), atI_nat hx, k⟩⟩
  refine ref_at e X.le hL _ ?_
  obtain ⟨bq, ys, hq, rq⟩ := id o
  obtain ⟨w1, hw1, rw1⟩ := env_dat e gj
  obtain ⟨v, hv, rv⟩ := dps_get' rq hd
  refine ⟨w1, hw1, .inl ⟨q, ys, (m2 : Int), v, rfl, dp_int rw1, SqL.of hq, atI_nat hv, ?_⟩⟩
  rw [dp_int rv]
  refine hp N σ B H B0 H0 e X n0 w hN _ fun v2 t2 H1 B1 ⟨z, et, hz⟩ X1 kp w2 r2 => ?_
  subst et
  rw [dp_int (dat_ok r2)]
  refine ⟨y, z, rfl, rfl, ?_⟩
  have e1 := e.mono kp.bb
  refine ref_at e1 X1.le (kp.bb L _ hL) _ ?_
  obtain ⟨b1, ys1, hq1, rq1⟩ := kp.own q ds ne o
  obtain ⟨w3, hw3, rw3⟩ := env_dat e1 gj
  have hl := (List.getElem?_eq_some_iff.mp hd).1
  refine ⟨w3, hw3, q, ys1, (m2 : Int), m2, rfl, dp_int rw3, hq1, ixN_nat (by rw [dps_len rq1]; exact hl), ?_⟩
  refine k z _ B1 hz (X1.mut nq b1) kp.bb ⟨b1, _, upd_same, dps_set (.int _) m2 rq1⟩ ?_ (fun q2 es n1 n2 oq => (kp.own q2 es n1 oq).keepU n2) e1
  obtain ⟨aa, bb, cc, o4, r4⟩ := w2
  exact ⟨aa, bb, cc, o4.keepU (fun z => ne z.symm), r4⟩
theorem dps_ix {H : Hp} : ∀ {xs : List V} {f : Nat → D}, (∀ i v, xs[i]? = some v → Dp K H v (f i)) → DpAll K H xs ((List.range xs.length).map f)
  | [], f, h => .nil
  | x :: xs, f, h => by
    rw [List.length_cons, List.range_succ_eq_map, List.map_cons, List.map_map]
    exact .cons (h 0 x rfl) (dps_ix (xs := xs) (f := f ∘ Nat.succ) fun i v hv => h (i + 1) v hv)
/-- the lists are shown -/
theorem show_rows {f : Nat → List D} (e : Env K B σ G) (X : Ext B0 H0 B H) (nq : H0 q = none) (gl : G[i]? = some (.val (.ref L))) (hL : B L = some (.lst xs)) (hx : xs[m]? = some (.ref q)) (o : Own K q (f m) B H) (hd : ∀ i v, i ≠ m → xs[i]? = some v → Dp K B v (.list (f i))) :
    ∃ B2, Env K B2 σ (G.set i (.dat (.list ((List.range xs.length).map fun i => .list (f i))))) ∧ Ext B0 H0 B2 H ∧ Ex B B2 ∧ ∀ q2 es, q2 ≠ q → Own K q2 es B H → Own K q2 es B2 H := by
  obtain ⟨bq, ys, hq, rq⟩ := o
  obtain ⟨e2, X2, bb⟩ := reveal e X nq bq hq
  refine ⟨_, e2.re gl (ok_dat (.lst (SqL.of (bb L _ hL)) (dps_ix fun j v hv => ?_))), X2, bb, fun q2 es n2 oq => ?_⟩
  · by_cases h : j = m
    · subst h
      rw [hx] at hv
      cases hv
      exact dp_shown bq rq
    · exact dp_mono bb _ (hd j v h hv)
  · obtain ⟨b2, zs, h2, r2⟩ := oq
    exact ⟨by rw [upd_ne n2]; exact b2, zs, h2, dps_mono bb _ r2⟩
end
end Wk
-- R27
namespace Wk
open PySem PySem.Spec PyProof.Rows L2 Evl
theorem Ext.fresh {B H1 H2 B' H' : Hp} {S : List Addr} (Y : Ext B (hideH H2 S) B' H') (hS : ∀ a ∈ S, H1 a = none) (h : ∀ a, a ∉ S → H2 a = H1 a) : Ext B H1 B' H' := ⟨fun a o z => by
  have ne : a ∉ S := fun m => by rw [hS a m] at z; cases z
  exact Y.ex a o (by rw [hide_out ne, h a ne]; exact z), Y.bb, Y.le, fun a m z => by
  have ne : a ∉ S := fun q => by rw [hS a q] at m; exact m
  exact Y.hid a (by rw [hide_out ne, h a ne]; exact m) z⟩
end Wk
-- V0
namespace At
open PySem PySem.Spec PyProof.Rows L2 Wk La
def topS (i : Nat) : Stmt := PySem.Challenge.pw_alltriangular_k34_whole_lots_alike.main.body.getD i (.Pass ⟨0, 0, 0, 0⟩)
/-- names that the module leaves to Python -/
structure Bi (mg : Str → Option Value) : Prop where
  abs : mg "abs" = none
  len : mg "len" = none
  sum : mg "sum" = none
  max : mg "max" = none
  min : mg "min" = none
  all : mg "all" = none
  tuple : mg "tuple" = none
  list : mg "list" = none
  int : mg "int" = none
  range : mg "range" = none
  zip : mg "zip" = none
  enumerate : mg "enumerate" = none
  sorted : mg "sorted" = none
  isinstance : mg "isinstance" = none
  divmod : mg "divmod" = none
  bool : mg "bool" = none
def vec (w : Nat) (v : Vec) : List D := (List.range w).map fun i => .int (v i)
def rowD (k : Bool) (w : Nat) (v : Vec) : D := sqD k (vec w v)
def rowsD (kk k : Bool) (w : Nat) (R : List Vec) : D := sqD kk (R.map (rowD k w))
theorem vec_len {w : Nat} {v : Vec} : (vec w v).length = w := by unfold vec; rw [List.length_map, List.length_range]
theorem vec_at {w i : Nat} {v : Vec} (h : i < w) : (vec w v)[i]? = some (.int (v i)) := by unfold vec; rw [List.getElem?_map, List.getElem?_range h]; rfl
theorem vec_map {w : Nat} {v : Vec} : vec w v = ((List.range w).map v).map .int := by unfold vec; rw [List.map_map]; rfl
theorem vec_congr {w : Nat} {u v : Vec} (h : ∀ j, j < w → u j = v j) : vec w u = vec w v := by
  unfold vec
  exact List.map_congr_left fun i hi => by rw [h i (List.mem_range.mp hi)]
theorem vec_picked {w : Nat} {v : Vec} : picked w (fun _ => true) (fun i => PyData.int (v i)) = vec w v := picked_all _ _
theorem range_at {α : Type} {n i : Nat} {f : Nat → α} (h : i < n) : ((List.range n).map f)[i]? = some (f i) := by rw [List.getElem?_map, List.getElem?_range h]; rfl
theorem row_at {α : Type} {R : List Vec} {f : Vec → α} {i : Nat} (h : i < R.length) : (R.map f)[i]? = some (f (row R i)) := by
  rw [List.getElem?_map, List.getElem?_eq_getElem h]
  unfold row
  rw [List.getD_eq_getElem?_getD, List.getElem?_eq_getElem h]
  rfl
theorem dpc {K : PySem.W.Frag} {H : Hp} {v : V} {a b : D} (r : Dp K H v a) (e : a = b) : Dp K H v b := e ▸ r
theorem vec_in {w i : Nat} {u v : Vec} (h : i < (vec w u).length) : (vec w v)[i]? = some (.int (v i)) := vec_at (by rwa [vec_len] at h)
theorem row_in {α β : Type} {R : List Vec} {g : Vec → β} {f : Vec → α} {i : Nat} (h : i < (R.map g).length) : (R.map f)[i]? = some (f (row R i)) := row_at (by rwa [List.length_map] at h)
theorem range_in {α β : Type} {n i : Nat} {f : Nat → α} {g : Nat → β} (h : i < ((List.range n).map g).length) : ((List.range n).map f)[i]? = some (f i) := range_at (by rwa [List.length_map, List.length_range] at h)
theorem take_row {R : List Vec} {i : Nat} (h : i < R.length) : R.take (i + 1) = R.take i ++ [row R i] := by
  rw [List.take_succ, List.getElem?_eq_getElem h]
  unfold row
  rw [List.getD_eq_getElem?_getD, List.getElem?_eq_getElem h]
  rfl
theorem log_lt {x : Int} {b : Nat} (h : x.natAbs < 2 ^ b) (hb : 0 < b) : x.natAbs.log2 < b := PySem.Flt.log2_lt_of hb h
theorem mulw {x y : Int} (hx : x.natAbs < 2 ^ 100000) (hy : y.natAbs < 2 ^ 100000) : CMulW x y := wide_mul hx hy (by omega) (by omega) (by omega)
end At
-- V1
namespace At
open PySem PySem.Spec PyProof.Rows L2 Wk La
abbrev st_shared : Stmt := topS 6
abbrev N_shared : List Str := ["one", "other"]
theorem sc_shared : FnScope N_shared ["one", "other"] (defScope st_shared) := ⟨rfl, rfl, rfl, by decide +kernel, rfl, by decide +kernel, by decide +kernel⟩
abbrev st_lead_of : Stmt := topS 9
abbrev N_lead_of : List Str := ["row", "at", "part"]
theorem sc_lead_of : FnScope N_lead_of ["row"] (defScope st_lead_of) := ⟨rfl, rfl, rfl, by decide +kernel, rfl, by decide +kernel, by decide +kernel⟩
section
variable {P : Program} {w : World} {K : PySem.W.Frag} {mg : Str → Option Value} {base : Heap} (bi : Bi mg)
abbrev spShared (K : PySem.W.Frag) : Sp := spD K (fun a : Int × Int => [.int a.1, .int a.2]) (fun _ => True) fun a => .int (gcdI a.1 a.2)
theorem stp_nat (a b : Nat) : (a : Int).fmod (b : Int) = ((a % b : Nat) : Int) := by rw [Int.fmod_eq_emod_of_nonneg _ (by omega)]; rfl
include bi in
theorem ok_shared {f : Addr} {fd : FuncData} (F : L2.Fun K "shared" "shared" st_shared f fd) : FnOk P w K mg base CX0 1 f fd ["one", "other"] (spShared K) := by
  refine okD F sc_shared (fun _ => rfl) (by decide) fun ⟨a, b⟩ cdv A outer s H σ Q E B hr _ eb e k => ⟨_, (pss_cons (ps_par (i := 0) (j := 1) (by rfl) sc_shared.nd rfl rfl (by decide) rfl rfl (pa_cons (pe_callB call_abs (by rfl) bi.abs (by decide +kernel) (pa_cons (pv 0) pa_nil)) (pa_cons (pe_callB call_abs (by rfl) bi.abs (by decide +kernel) (pa_cons (pv 1) pa_nil)) pa_nil)) (by rfl))
      (pss_cons (ps_while PassesOwn.never (pt_cmpR op_gt (pv 1) pe_int (nomark _)) (pss_one (ps_par (i := 0) (j := 1) (by rfl) sc_shared.nd rfl rfl (by decide) rfl rfl (pa_cons (pv 1) (pa_cons (pe_op op_modN (pv 0) (pv 1)) pa_nil)) (by rfl))))
      (pss_one (ps_ret (pv 0))))), ?_⟩
  refine s_par (ea_cons (ev_cb (ea_cons (ev_var rfl) ea_nil) cv_abs) (ea_cons (ev_cb (ea_cons (ev_var rfl) ea_nil) cv_abs) ea_nil)) e eb fun σ1 H1 B1 x1 e1 => ?_
  refine s_while (S := { s : Nat × Nat // Nat.gcd s.1 s.2 = Nat.gcd a.natAbs b.natAbs }) (fun s => [.dat (.int (s.1.1 : Int)), .dat (.int (s.1.2 : Int))]) (fun s => s.1.2) ⟨(a.natAbs, b.natAbs), rfl⟩ e1 x1 fun s => ?_
  obtain ⟨⟨x, y⟩, hs⟩ := s
  refine ⟨_, et_test (ev_gt (ev_var rfl) ev_int), fun hb => ?_, fun hb => ?_⟩
  · have y0 : (0 : Int) < (y : Int) := of_decide_eq_true hb
    have y0 : 0 < y := by omega
    refine ⟨⟨(y, x % y), by
      show Nat.gcd y (x % y) = _
      rw [Nat.gcd_comm, ← Nat.gcd_rec, Nat.gcd_comm]
      exact hs⟩, Nat.mod_lt _ y0, fun σ2 B2 H2 e2 x2 N hN => ?_⟩
    refine s_par (ea_cons (ev_var rfl) (ea_cons (ev_fmod (ev_var rfl) (ev_var rfl) (show (y : Int) ≠ 0 by omega)) ea_nil)) e2 x2.le fun σ3 H3 B3 x3 e3 => hN σ3 H3 B3 ?_ (x2.trans x3)
    rw [stp_nat] at e3
    exact e3
  · have y0 : ¬ (0 : Int) < (y : Int) := of_decide_eq_false hb
    have y0 : y = 0 := by omega
    subst y0
    intro σ2 B2 H2 e2 x2
    refine s_ret (ev_var rfl) e2 x2.le fun v H3 B3 x3 r3 => k v H3 B3 (x2.trans x3) ?_
    show Dp K B3 v (.int (gcdI a b))
    have : gcdI a b = (x : Int) := by
      have hs : Nat.gcd x 0 = Nat.gcd a.natAbs b.natAbs := hs
      rw [Nat.gcd_zero_right] at hs
      rw [hs]
      rfl
    rw [this]
    exact r3
/-- lead_of: the lead, or None -/
def optD : Option Nat → D
  | none => .none
  | some i => .int (i : Int)
structure RowA where
  k : Bool
  w : Nat
  v : Vec
abbrev spLeadOf (K : PySem.W.Frag) : Sp := spD K (fun a : RowA => [rowD a.k a.w a.v]) (fun a => a.w ≤ 9) fun a => optD (lead a.v a.w)
include bi in
theorem ok_lead_of {f : Addr} {fd : FuncData} (F : L2.Fun K "lead_of" "lead_of" st_lead_of f fd) : FnOk P w K mg base CX0 1 f fd ["row"] (spLeadOf K) := by
  refine okD F sc_lead_of (fun _ => rfl) (by decide) fun ⟨kd, n, v⟩ cdv A outer s H σ Q E B hr hw eb e k => ⟨_, (pss_cons (ps_for PassesOwn.never (by rfl) (pi_enumB (by rfl) bi.enumerate (pa_cons (pv 0) pa_nil)) (pg_tup (by rfl) (pgs_cons (pg_name (i := 1) sc_lead_of.nd rfl (by first | exact Or.inl rfl | exact Or.inr rfl)) (pgs_cons (pg_name (i := 2) sc_lead_of.nd rfl (by first | exact Or.inl rfl | exact Or.inr rfl)) pgs_nil))) (pss_one (ps_if (pt_cmpR (r := rNeD K) (op_neD hr.units) (pv 2) pe_int (nomark _)) (pss_one (ps_ret (pv 1))) pss_nil)))
      (pss_one (ps_ret pe_non))), ?_⟩
  have L : (vec n v).length = n := vec_len
  refine s_for (n := (vec n v).length) (Gi := fun i => [.dat (rowD kd n v), .no, .no]) (Φ := fun _ i _ _ => lead v i = none) (w_enum (item := fun i => .int (v i)) (ea_cons (ev_var rfl) ea_nil) fun i hi => vec_at (by omega)) e (Ext.refl eb) (fun B1 H1 x1 => ⟨⟨rfl, trivial, trivial, trivial⟩, rfl⟩) (fun B1 i σ2 B' H' H'' hi X' b' φ x2 e2 => ?_) (fun B1 σ2 B' H' e' X' φ => ?_)
  · refine s_if (et_test (ev_neI (ev_var rfl) ev_int)) e2 x2.le (fun hb H3 B3 x3 e3 => ?_) (fun hb H3 B3 x3 e3 => ?_)
    · have ne : v i ≠ 0 := by simpa using hb
      refine s_ret (ev_var rfl) e3 x3.le fun u H4 B4 x4 r4 => k u H4 B4 (((X'.trans x2).trans x3).trans x4) ?_
      show Dp K B4 u (optD (lead v n))
      have : lead v n = some i := lead_some.mpr ⟨by omega, ne, lead_none.mp φ⟩
      rw [this]
      exact r4
    · have z : v i = 0 := by simpa using hb
      refine ⟨B3, e3.le (by exact ⟨rfl, trivial, trivial, trivial⟩), (X'.trans x2).trans x3, b'.trans (x2.bb.trans x3.bb), ?_⟩
      simp only [lead]
      rw [φ, z]
      rfl
  · dsimp only
    refine s_ret ev_non e' X'.le fun u H4 B4 x4 r4 => k u H4 B4 (X'.trans x4) ?_
    show Dp K B4 u (optD (lead v n))
    rw [L] at φ
    rw [φ]
    exact r4
end
end At
-- V2
namespace At
open PySem PySem.Spec PyProof.Rows L2 Wk La
abbrev st_plain : Stmt := topS 10
abbrev N_plain : List Str := ["row", "by", "part"]
theorem sc_plain : FnScope N_plain ["row"] (defScope st_plain) := ⟨rfl, rfl, rfl, by decide +kernel, rfl, by decide +kernel, by decide +kernel⟩


theorem gcd_small {w b : Nat} {v : Vec} (h : Nz w v) (hb : Bt w b v) : gcdN v w ≠ 0 ∧ (gcdN v w).natAbs < 2 ^ b := by
  have g0 : gcdN v w ≠ 0 := fun z => not_nz.mpr (gcdN_zero.mp z) h
  have hl := h.isLd
  refine ⟨g0, Nat.lt_of_le_of_lt ?_ (hb _ hl.lt)⟩
  have := hl.ne
  exact Nat.le_of_dvd (by omega) (Int.natAbs_dvd_natAbs.mpr (gcdN_dvd hl.lt))
theorem optD_nz {w : Nat} {v : Vec} (h : Nz w v) : optD (lead v w) = .int (ld w v : Int) := by
  rw [h.isLd.lead]
  rfl
section
variable {P : Program} {w : World} {K : PySem.W.Frag} {mg : Str → Option Value} {base : Heap} (bi : Bi mg)
abbrev spPlain (K : PySem.W.Frag) : Sp := spD K (fun a : RowA => [rowD a.k a.w a.v]) (fun a => a.w ≤ 9 ∧ Bt a.w 9000 a.v) fun a => rowD false a.w (La.plain a.w a.v)
include bi in
theorem ok_plain {f : Addr} {fd : FuncData} (F : L2.Fun K "plain" "plain" st_plain f fd) (c_shared : Wk.Cal P w K mg base 1 "shared" (spShared K)) (c_lead_of : Wk.Cal P w K mg base 1 "lead_of" (spLeadOf K)) : FnOk P w K mg base CX0 2 f fd ["row"] (spPlain K) := by
  refine okD F sc_plain (fun _ => rfl) (by decide) fun ⟨kd, n, v⟩ cdv A outer s H σ Q E B hr ⟨hw, hv⟩ eb e k => ⟨_, (pss_cons (ps_set (i := 1) sc_plain.nd rfl (by first | exact Or.inl rfl | exact Or.inr rfl) pe_int)
      (pss_cons (ps_for PassesOwn.never (by rfl) (pi_sq (pv 0)) (pg_name (i := 2) sc_plain.nd rfl (by first | exact Or.inl rfl | exact Or.inr rfl)) (pss_one (ps_set (i := 1) sc_plain.nd rfl (by first | exact Or.inl rfl | exact Or.inr rfl) (pe_cal c_shared hr (by decide) (by rfl) (pa_cons (pv 1) (pa_cons (pv 2) pa_nil))))))
      (pss_cons (ps_if (pt_cmpR (r := rEqD K) (op_eqD hr.units) (pv 1) pe_int (nomark _)) (pss_one (ps_ret (pe_callTy (r := rTupOf K) call_tuple_of (by rfl) bi.tuple (by decide +kernel) (pa_cons (pv 0) pa_nil)))) pss_nil)
      (pss_cons (ps_set (i := 1) sc_plain.nd rfl (by first | exact Or.inl rfl | exact Or.inr rfl) (pe_ifExp (pt_cmpR op_gt (pe_ix (r := rIx K) ix_seq (pv 0) (pe_cal c_lead_of hr (by decide) (by rfl) (pa_cons (pv 0) pa_nil)) (fun _ _ => rfl)) pe_int (nomark _)) (pv 1) (pe_un un_neg (pv 1))))
      (pss_one (ps_ret (pe_callTy (r := rTupOf K) call_tuple_of (by rfl) bi.tuple (by decide +kernel) (pa_cons (pe_lc (own := [("part", 2)]) (wi := iSq K _) (g := gName 2) (by rfl) sc_plain.nd (pi_sq (pv 0)) (blkOk_by (N := N_plain) (sc := (defScope st_plain)) (by decide +kernel)) (fun _ _ _ _ _ => (pg_name (i := 2) sc_plain.nd rfl (by first | exact Or.inl rfl | exact Or.inr rfl))) (fun _ _ _ _ _ => pts_nil) (fun _ _ _ _ _ => (pe_op op_fdivG (pv 2) (pv 1)))) pa_nil)))))))), ?_⟩
  have L : (vec n v).length = n := vec_len
  dsimp only at hw hv k
  refine s_asg ev_int e eb fun σ1 H1 B1 x1 e1 => ?_
  refine s_for (n := (vec n v).length) (Gi := fun i => [.dat (rowD kd n v), .dat (.int (gcdN v i)), .no]) (Φ := fun _ i _ _ => True) (w_sq (item := fun i => .int (v i)) (ev_var rfl) fun i hi => vec_at (by omega)) e1 x1 (fun B1 H1 x1 => ⟨⟨rfl, rfl, trivial, trivial⟩, trivial⟩) (fun B1 i σ2 B' H' H'' hi X' b' φ x2 e2 => ?_) (fun B1 σ2 B' H' e' X' φ => ?_)
  · refine s_asg (ev_call (ea_cons (ev_var rfl) (ea_cons (ev_var rfl) ea_nil)) (spD_v (gcdN v i, v i) trivial)) e2 x2.le fun σ3 H3 B3 x3 e3 => ?_
    exact ⟨B3, e3.le (by exact ⟨rfl, rfl, trivial, trivial⟩), (X'.trans x2).trans x3, b'.trans (x2.bb.trans x3.bb), trivial⟩
  · dsimp only at e' ⊢
    rw [L] at e'
    refine s_if (et_test (ev_eqI (ev_var rfl) ev_int)) e' X'.le (fun hb H3 B3 x3 e3 => ?_) (fun hb H3 B3 x3 e3 => ?_)
    · have z : gcdN v n = 0 := by simpa using hb
      refine s_ret (ev_cb (ea_cons (ev_var rfl) ea_nil) cv_tuple) e3 x3.le fun u H4 B4 x4 r4 => k u H4 B4 ((X'.trans x3).trans x4) ?_
      have : La.plain n v = v := by unfold La.plain; simp only [z, if_true]
      rw [this]
      exact r4
    · have ne : gcdN v n ≠ 0 := by simpa using hb
      have nz : Nz n v := Classical.byContradiction fun q => ne (gcdN_zero.mpr (not_nz.mp q))
      have hl := nz.isLd
      obtain ⟨_, gs⟩ := gcd_small nz hv
      generalize hby : (if v (ld n v) > 0 then gcdN v n else - gcdN v n) = b
      have hb0 : b ≠ 0 ∧ b.natAbs < 2 ^ 9000 := by
        rw [← hby]
        split
        · exact ⟨ne, gs⟩
        · refine ⟨by omega, ?_⟩
          rw [Int.natAbs_neg]
          exact gs
      have hp : La.plain n v = fun i => (v i).fdiv b := by
        unfold La.plain
        simp only [ne, if_false]
        rw [hby]
      dsimp only [tNext]
      refine s_asg (t := .dat (.int b)) (ev_if (et_test (ev_gt (ev_ix (ev_var rfl) ((ev_call (ea_cons (ev_var rfl) ea_nil) (spD_v (⟨kd, n, v⟩ : RowA) hw)).cast (optD_nz nz)) rfl (vec_at hl.lt)) ev_int)) (fun q => (ev_var rfl).cast ?_) fun q => (ev_neg (ev_var rfl)).cast ?_) e3 x3.le fun σ4 H4 B4 x4 e4 => ?_
      · have q := of_decide_eq_true q
        rw [← hby, if_pos q]
      · have q := of_decide_eq_false q
        rw [← hby, if_neg q]
      · refine s_ret (ev_cb (ea_cons (en_lc (p := fun _ => true) (f := fun i => .int ((v i).fdiv b)) (w_sq (item := fun i => .int (v i)) (ev_var rfl) fun i hi => vec_at (by omega)) (by omega) (by decide) (fun _ _ => et_yes) (fun i hi _ => ev_fdiv (ev_var rfl) (ev_var rfl) ⟨hb0.1, log_lt hb0.2 (by omega)⟩)).dat ea_nil) (cv_tuple (k := true))) e4 x4.le fun u H5 B5 x5 r5 => k u H5 B5 (((X'.trans x3).trans x4).trans x5) ?_
        rw [hp]
        rw [L, picked_all] at r5
        exact r5
end
end At
-- V3
namespace At
open PySem PySem.Spec PyProof.Rows L2 Wk La
abbrev st_without : Stmt := topS 11
abbrev N_without : List Str := ["row", "other", "at", "a", "b"]
theorem sc_without : FnScope N_without ["row", "other", "at"] (defScope st_without) := ⟨rfl, rfl, rfl, by decide +kernel, rfl, by decide +kernel, by decide +kernel⟩
abbrev st_left_over : Stmt := topS 12
abbrev N_left_over : List Str := ["row", "basis", "other", "at"]
theorem sc_left_over : FnScope N_left_over ["row", "basis"] (defScope st_left_over) := ⟨rfl, rfl, rfl, by decide +kernel, rfl, by decide +kernel, by decide +kernel⟩
theorem mul9 {x y : Int} (hx : x.natAbs < 2 ^ 9000) (hy : y.natAbs < 2 ^ 9000) : CMulW x y := wide_mul hx hy (by omega) (by omega) (by omega)
structure WoA where
  k1 : Bool
  k2 : Bool
  w : Nat
  row : Vec
  other : Vec
  at_ : Nat
def lo2 (w : Nat) (st : Bool × Vec) (other : Vec) : Bool × Vec := if st.2 (ld w other) ≠ 0 then (false, La.without w st.2 other (ld w other)) else st
theorem lo2_snd {w : Nat} : ∀ {T : List Vec} {st : Bool × Vec}, (T.foldl (lo2 w) st).2 = T.foldl (La.lo1 w) st.2
  | [], _ => rfl
  | t :: T, st => by
    rw [List.foldl_cons, List.foldl_cons, lo2_snd]
    congr 1
    unfold lo2 La.lo1
    split <;> rfl
structure LoA where
  k : Bool
  w : Nat
  row : Vec
  basis : List Vec
section
variable {P : Program} {w : World} {K : PySem.W.Frag} {mg : Str → Option Value} {base : Heap} (bi : Bi mg)
abbrev spWithout (K : PySem.W.Frag) : Sp := spD K (fun a : WoA => [rowD a.k1 a.w a.row, rowD a.k2 a.w a.other, .int (a.at_ : Int)]) (fun a => a.w ≤ 9 ∧ a.at_ < a.w ∧ RawOk a.w a.row a.other a.at_) fun a => rowD false a.w (La.without a.w a.row a.other a.at_)
include bi in
theorem ok_without {f : Addr} {fd : FuncData} (F : L2.Fun K "without" "without" st_without f fd) (c_plain : Wk.Cal P w K mg base 2 "plain" (spPlain K)) : FnOk P w K mg base CX0 3 f fd ["row", "other", "at"] (spWithout K) := by
  refine okD F sc_without (fun _ => rfl) (by decide) fun ⟨k1, k2, n, r, o, t⟩ cdv A outer s H σ Q E B hr ⟨hw, ht, h1, h2, h3⟩ eb e k => ⟨_, (pss_one (ps_ret (pe_cal c_plain hr (by decide) (by rfl) (pa_cons (pe_lc (own := [("a", 3), ("b", 4)]) (wi := iZipB K _) (g := gPair K 3 4) (by rfl) sc_without.nd (pi_zipB (by rfl) bi.zip (pa_cons (pv 0) (pa_cons (pv 1) pa_nil))) (blkOk_by (N := N_without) (sc := (defScope st_without)) (by decide +kernel)) (fun _ _ _ _ _ => (pg_tup (by rfl) (pgs_cons (pg_name (i := 3) sc_without.nd rfl (by first | exact Or.inl rfl | exact Or.inr rfl)) (pgs_cons (pg_name (i := 4) sc_without.nd rfl (by first | exact Or.inl rfl | exact Or.inr rfl)) pgs_nil)))) (fun _ _ _ _ _ => pts_nil) (fun _ _ _ _ _ => (pe_op op_sub (pe_op op_mulW (pv 3) (pe_ix (r := rIx K) ix_seq (pv 1) (pv 2) (fun _ _ => rfl))) (pe_op op_mulW (pv 4) (pe_ix (r := rIx K) ix_seq (pv 0) (pv 2) (fun _ _ => rfl)))))) pa_nil)))), ?_⟩
  dsimp only at hw ht h1 h2 h3 k
  have L : ∀ v : Vec, (vec n v).length = n := fun _ => vec_len
  refine s_ret (ev_call (ea_cons ((en_lc (p := fun _ => true) (f := fun i => .int (raw r o t i)) (w_zip (it1 := fun i => .int (r i)) (it2 := fun i => .int (o i)) (ea_cons (ev_var rfl) (ea_cons (ev_var rfl) ea_nil)) (fun i hi => vec_in hi) (fun i hi => vec_in hi)) (by rw [L, L]; omega) (by decide) (fun _ _ => et_yes) (fun i hi _ => ?_)).dat.cast (b := rowD true n (raw r o t)) ?_) ea_nil) (spD_v (⟨true, n, raw r o t⟩ : RowA) ⟨hw, h3⟩)) e eb fun u H5 B5 x5 r5 => k u H5 B5 x5 r5
  · rw [L, L] at hi
    exact ev_sub (ev_mul (ev_var rfl) (ev_ix (ev_var rfl) (ev_var rfl) rfl (vec_at ht)) (mul9 (h1 i (by omega)) (h2 t ht))) (ev_mul (ev_var rfl) (ev_ix (ev_var rfl) (ev_var rfl) rfl (vec_at ht)) (mul9 (h2 i (by omega)) (h1 t ht)))
  · rw [L, L, Nat.min_self, picked_all]
    rfl
abbrev spLeftOver (K : PySem.W.Frag) : Sp := spD K (fun a : LoA => [rowD a.k a.w a.row, rowsD true false a.w a.basis]) (fun a => a.w ≤ 9 ∧ (∀ o ∈ a.basis, Nz a.w o) ∧ LoFine a.w a.row a.basis) fun a => rowD false a.w (La.left a.w a.row a.basis)
include bi in
theorem ok_left_over {f : Addr} {fd : FuncData} (F : L2.Fun K "left_over" "left_over" st_left_over f fd) (c_plain : Wk.Cal P w K mg base 2 "plain" (spPlain K)) (c_lead_of : Wk.Cal P w K mg base 1 "lead_of" (spLeadOf K)) (c_without : Wk.Cal P w K mg base 3 "without" (spWithout K)) : FnOk P w K mg base CX0 4 f fd ["row", "basis"] (spLeftOver K) := by
  refine okD F sc_left_over (fun _ => rfl) (by decide) fun ⟨kd, n, r, R⟩ cdv A outer s H σ Q E B hr ⟨hw, hR, hf, hl⟩ eb e k => ⟨_, (pss_cons (ps_for PassesOwn.never (by rfl) (pi_sq (pv 1)) (pg_name (i := 2) sc_left_over.nd rfl (by first | exact Or.inl rfl | exact Or.inr rfl)) (pss_cons (ps_set (i := 3) sc_left_over.nd rfl (by first | exact Or.inl rfl | exact Or.inr rfl) (pe_cal c_lead_of hr (by decide) (by rfl) (pa_cons (pv 2) pa_nil)))
      (pss_one (ps_if (pt_cmpR (r := rNeD K) (op_neD hr.units) (pe_ix (r := rIx K) ix_seq (pv 0) (pv 3) (fun _ _ => rfl)) pe_int (nomark _)) (pss_one (ps_set (i := 0) sc_left_over.nd rfl (by first | exact Or.inl rfl | exact Or.inr rfl) (pe_cal c_without hr (by decide) (by rfl) (pa_cons (pv 0) (pa_cons (pv 2) (pa_cons (pv 3) pa_nil)))))) pss_nil))))
      (pss_one (ps_ret (pe_cal c_plain hr (by decide) (by rfl) (pa_cons (pv 0) pa_nil))))), ?_⟩
  dsimp only at hw hR hf hl k
  have L : (R.map (rowD false n)).length = R.length := List.length_map ..
  let st : Nat → Bool × Vec := fun i => (R.take i).foldl (lo2 n) (kd, r)
  have st2 : ∀ i, (st i).2 = (R.take i).foldl (La.lo1 n) r := fun i => lo2_snd
  refine s_for (n := (R.map (rowD false n)).length) (Gi := fun i => [.dat (rowD (st i).1 n (st i).2), .dat (rowsD true false n R), .no, .no]) (Φ := fun _ i _ _ => True) (w_sq (k := true) (item := fun i => rowD false n (La.row R i)) (ev_var rfl) fun i hi => row_in hi) e (Ext.refl eb) (fun B1 H1 x1 => ⟨⟨rfl, rfl, trivial, trivial, trivial⟩, trivial⟩) (fun B1 i σ2 B' H' H'' hi X' b' φ x2 e2 => ?_) (fun B1 σ2 B' H' e' X' φ => ?_)
  · rw [L] at hi
    have m := row_mem hi
    have nz := hR _ m
    have rk := hf i hi
    rw [← st2 i] at rk
    have nx : st (i + 1) = lo2 n (st i) (La.row R i) := by
      show (R.take (i + 1)).foldl (lo2 n) (kd, r) = _
      rw [take_row hi, List.foldl_append]
      rfl
    refine s_asg ((ev_call (ea_cons (ev_var rfl) ea_nil) (spD_v (⟨false, n, La.row R i⟩ : RowA) hw)).cast (optD_nz nz)) e2 x2.le fun σ3 H3 B3 x3 e3 => ?_
    have X3 := (X'.trans x2).trans x3
    have b3 := b'.trans (x2.bb.trans x3.bb)
    refine s_if (et_test (ev_neI (ev_ix (ev_var rfl) (ev_var rfl) rfl (vec_at nz.isLd.lt)) ev_int)) e3 x3.le (fun hb H4 B4 x4 e4 => ?_) (fun hb H4 B4 x4 e4 => ?_)
    · have ne : (st i).2 (ld n (La.row R i)) ≠ 0 := by simpa using hb
      refine s_asg (ev_call (ea_cons (ev_var rfl) (ea_cons (ev_var rfl) (ea_cons (ev_var rfl) ea_nil))) (spD_v (⟨(st i).1, false, n, (st i).2, La.row R i, ld n (La.row R i)⟩ : WoA) ⟨hw, nz.isLd.lt, rk⟩)) e4 x4.le fun σ5 H5 B5 x5 e5 => ?_
      refine ⟨B5, e5.le ?_, (X3.trans x4).trans x5, b3.trans (x4.bb.trans x5.bb), trivial⟩
      try dsimp only
      rw [nx]
      unfold lo2
      rw [if_pos ne]
      exact ⟨rfl, rfl, trivial, trivial, trivial⟩
    · have z : (st i).2 (ld n (La.row R i)) = 0 := by simpa using hb
      refine ⟨B4, e4.le ?_, X3.trans x4, b3.trans x4.bb, trivial⟩
      try dsimp only
      rw [nx]
      unfold lo2
      rw [if_neg (by simp [z])]
      exact ⟨rfl, rfl, trivial, trivial, trivial⟩
  · dsimp only at e' ⊢
    rw [L] at e'
    have fin : (st R.length).2 = R.foldl (La.lo1 n) r := by rw [st2, List.take_length]
    refine s_ret (ev_call (ea_cons (ev_var rfl) ea_nil) (spD_v (⟨(st R.length).1, n, (st R.length).2⟩ : RowA) ⟨hw, by rw [fin]; exact hl⟩)) e' X'.le fun u H5 B5 x5 r5 => k u H5 B5 (X'.trans x5) ?_
    dsimp only at r5
    rw [fin] at r5
    exact r5
end
end At
-- V4
namespace At
open PySem PySem.Spec PyProof.Rows L2 Wk La
abbrev st_with_row : Stmt := topS 13
abbrev N_with_row : List Str := ["basis", "row", "rest", "at", "found", "other"]
theorem sc_with_row : FnScope N_with_row ["basis", "row"] (defScope st_with_row) := ⟨rfl, rfl, rfl, by decide +kernel, rfl, by decide +kernel, by decide +kernel⟩
abbrev st_reduced : Stmt := topS 14
abbrev N_reduced : List Str := ["rows", "basis", "row"]
theorem sc_reduced : FnScope N_reduced ["rows"] (defScope st_reduced) := ⟨rfl, rfl, rfl, by decide +kernel, rfl, by decide +kernel, by decide +kernel⟩
abbrev st_is_regular : Stmt := topS 16
abbrev N_is_regular : List Str := ["table"]
theorem sc_is_regular : FnScope N_is_regular ["table"] (defScope st_is_regular) := ⟨rfl, rfl, rfl, by decide +kernel, rfl, by decide +kernel, by decide +kernel⟩
theorem pair_eq {w : Nat} : ∀ {R : List Vec}, (R.Pairwise fun a b => ld w a ≠ ld w b) → ∀ a ∈ R, ∀ b ∈ R, ld w a = ld w b → a = b
  | [], _, a, ha, _, _, _ => nomatch ha
  | r :: R, h, a, ha, b, hb, e => by
    cases h with
    | cons h1 h2 =>
    rcases List.mem_cons.mp ha with qa | qa
    · rcases List.mem_cons.mp hb with qb | qb
      · rw [qa, qb]
      · rw [qa] at e
        exact absurd e (h1 b qb)
    · rcases List.mem_cons.mp hb with qb | qb
      · rw [qb] at e
        exact absurd e.symm (h1 a qa)
      · exact pair_eq h2 a qa b qb e
theorem srt_uniq {w : Nat} {R l : List Vec} (h : R.Pairwise fun a b => ld w a ≠ ld w b) (p : l.Perm R) (s : l.Pairwise fun a b => ld w a ≤ ld w b) : l = srt w R :=
  (p.trans srt_perm.symm).eq_of_pairwise (le := fun a b => ld w a ≤ ld w b) (fun a b ha hb h1 h2 => pair_eq h a (p.mem_iff.mp ha) b (srt_perm.mem_iff.mp hb) (Nat.le_antisymm h1 h2)) s srt_sorted
section
variable {K : PySem.W.Frag} {G : Gam} {ta : TA}
theorem zip_leads {w : Nat} {B : Hp} : ∀ {R : List Vec} {xs : List V}, DpAll K B xs (R.map (rowD false w)) → Paired (fun (r : Vec) (p : Int × V) => p.1 = (ld w r : Int) ∧ Dp K B p.2 (rowD false w r)) R ((R.map fun r => (ld w r : Int)).zip xs)
  | [], xs, h => by cases h; exact .nil
  | r :: R, xs, h => by
    cases h with
    | cons a b => exact .cons ⟨rfl, a⟩ (zip_leads b)
theorem paired_out {w : Nat} {B : Hp} {l : List Vec} {ps : List (Int × V)} (h : Paired (fun (r : Vec) (p : Int × V) => p.1 = (ld w r : Int) ∧ Dp K B p.2 (rowD false w r)) l ps) : DpAll K B (ps.map Prod.snd) (l.map (rowD false w)) := by
  induction h with
  | nil => exact .nil
  | cons a _ ih => exact .cons a.2 ih
theorem paired_srt {w : Nat} {B : Hp} {l : List Vec} {ps : List (Int × V)} (h : Paired (fun (r : Vec) (p : Int × V) => p.1 = (ld w r : Int) ∧ Dp K B p.2 (rowD false w r)) l ps) (o : ps.Pairwise fun p q => p.1 ≤ q.1) : l.Pairwise fun a b => ld w a ≤ ld w b := by
  induction h with
  | nil => exact .nil
  | @cons a p as ps h t ih =>
    cases o with
    | cons o1 o2 =>
      refine .cons (fun y hy => ?_) (ih o2)
      obtain ⟨i, hi, e⟩ := List.getElem_of_mem hy
      have key : ∀ {l : List Vec} {ps : List (Int × V)}, Paired (fun (r : Vec) (p : Int × V) => p.1 = (ld w r : Int) ∧ Dp K B p.2 (rowD false w r)) l ps → ∀ y ∈ l, ∃ q ∈ ps, q.1 = (ld w y : Int) := by
        intro l ps h
        induction h with
        | nil => intro y hy; cases hy
        | cons a _ ih =>
          intro y hy
          rcases List.mem_cons.mp hy with z | z
          · rw [z]; exact ⟨_, List.mem_cons_self, a.1⟩
          · obtain ⟨q, hq, e⟩ := ih y z
            exact ⟨q, List.mem_cons_of_mem _ hq, e⟩
      obtain ⟨q, hq, e2⟩ := key t y hy
      have le := o1 q hq
      rw [e2, h.1] at le
      omega
theorem en_sort {f : Addr} {w : Nat} {R : List Vec} (hw : w ≤ 9) (hz : ∀ r ∈ R, Nz w r) (hd : R.Pairwise fun a b => ld w a ≠ ld w b) (h : EvA K ta G [.list (R.map (rowD false w))]) :
    EvN K (tCKw (rSortKey K f (spLeadOf K)) ta (tCons (tC (.ref f)) tNil)) G ((srt w R).map (rowD false w)) := fun σ B H e eb Q k => by
  refine h σ B H e eb _ fun vs H1 B1 x1 r1 => ?_
  obtain ⟨v, rfl, rv⟩ := dps1 r1
  obtain ⟨l, xs, rfl, s, rx⟩ := dp_sq (k := true) rv
  have len := dps_len rx
  refine ⟨l, xs, R.map (fun r => (ld w r : Int)), rfl, rfl, sqB_mono x1.le s, by rw [len, List.length_map, List.length_map], fun i x n hx hn H' ex Q' q => ?_, fun D H' ys hD hD' ex ko => ?_⟩
  · obtain ⟨d, ed, rd⟩ := dps_get rx hx
    have hi : i < R.length := by
      have := (List.getElem?_eq_some_iff.mp hn).1
      rwa [List.length_map] at this
    rw [row_at hi] at ed hn
    cases ed
    refine ⟨⟨false, w, La.row R i⟩, B1, x1.le.trans ex, .cons rd .nil, hw, fun v H'' B' x2 r2 => ?_⟩
    dsimp only at r2
    rw [optD_nz (hz _ (row_mem hi))] at r2
    rw [dp_int r2]
    have en : n = (ld w (La.row R i) : Int) := (Option.some.inj hn).symm
    rw [← en]
    exact q H'' x2.ex
  · obtain ⟨ps, pm, rfl, so⟩ := ko
    obtain ⟨lr, lp, lz⟩ := perm_paired pm (zip_leads rx)
    have el := srt_uniq hd lp (paired_srt lz so)
    subst el
    have x2 : Ext B1 H1 B1 H' := ⟨ex, Evl.Ex.refl B1, x1.le.trans ex, fun _ _ z => z⟩
    have bD : B1 D = none := Evl.fresh_back (x1.le.trans ex) hD'
    exact k D _ _ B1 (Evl.fresh_back x1.ex hD) ((x1.trans x2).trans (Ext.hide (x1.le.trans ex) hD')) upd_same bD (paired_out lz)
end
structure WrA where
  k : Bool
  w : Nat
  basis : List Vec
  row : Vec
section
variable {P : Program} {w : World} {K : PySem.W.Frag} {mg : Str → Option Value} {base : Heap} (bi : Bi mg)
abbrev spWithRow (K : PySem.W.Frag) : Sp := spD K (fun a : WrA => [rowsD true false a.w a.basis, rowD a.k a.w a.row]) (fun a => a.w ≤ 9 ∧ WrFine a.w a.basis a.row ∧ a.basis.length ≤ 9) fun a => rowsD true false a.w (withRow a.w a.basis a.row)
include bi in
theorem ok_with_row {f : Addr} {fd : FuncData} (F : L2.Fun K "with_row" "with_row" st_with_row f fd) (c_left_over : Wk.Cal P w K mg base 4 "left_over" (spLeftOver K)) (c_lead_of : Wk.Cal P w K mg base 1 "lead_of" (spLeadOf K)) (c_without : Wk.Cal P w K mg base 3 "without" (spWithout K)) : FnOk P w K mg base CX0 5 f fd ["basis", "row"] (spWithRow K) := by
  obtain ⟨fl, fdl, psl, Fl, hml, kpl, bl⟩ := c_lead_of.ex
  refine okD F sc_with_row (fun _ => rfl) (by decide) fun ⟨kd, n, R, r⟩ cdv A outer s H σ Q E B hr ⟨hw, hf, hR9⟩ eb e k => ⟨_, (pss_cons (ps_set (i := 2) sc_with_row.nd rfl (by first | exact Or.inl rfl | exact Or.inr rfl) (pe_cal c_left_over hr (by decide) (by rfl) (pa_cons (pv 1) (pa_cons (pv 0) pa_nil))))
      (pss_cons (ps_set (i := 3) sc_with_row.nd rfl (by first | exact Or.inl rfl | exact Or.inr rfl) (pe_cal c_lead_of hr (by decide) (by rfl) (pa_cons (pv 2) pa_nil)))
      (pss_cons (ps_if (pt_cmpR (r := rIsNone) op_isN (pv 3) pe_non (nomark _)) (pss_one (ps_ret (pv 0))) pss_nil)
      (pss_cons (ps_setLc (own := [("other", 5)]) (wi := iSq K _) (g := gName 5) (i := 4) rfl sc_with_row.nd rfl rfl rfl (pi_sq (pv 0)) (blkOk_by (N := N_with_row) (sc := (defScope st_with_row)) (by decide +kernel)) (fun _ _ _ _ _ => (pg_name (i := 5) sc_with_row.nd rfl (by first | exact Or.inl rfl | exact Or.inr rfl))) (fun _ _ _ _ _ => pts_nil) (fun _ _ _ _ _ => (pe_ifExp (pt_cmpR (r := rNeD K) (op_neD hr.units) (pe_ix (r := rIx K) ix_seq (pv 5) (pv 3) (fun _ _ => rfl)) pe_int (nomark _)) (pe_cal c_without hr (by decide) (by rfl) (pa_cons (pv 5) (pa_cons (pv 2) (pa_cons (pv 3) pa_nil)))) (pv 5))))
      (pss_one (ps_ret (pe_callBK (r := rSortKey K fl (spLeadOf K)) (cr_sortKey Fl bl hr (by decide)) (by rfl) bi.sorted (by decide +kernel) (pa_cons (pe_lst (StX.pa_star (pv 4) (pa_cons (pv 2) pa_nil))) pa_nil) (pk_cons (pe_glob (v := .ref fl) (by rfl) hml rfl) pk_nil)))))))), ?_⟩
  dsimp only at hw hf hR9 k
  obtain ⟨rr, lf, wf⟩ := hf
  have L : (R.map (rowD false n)).length = R.length := List.length_map ..
  refine s_asg (ev_call (ea_cons (ev_var rfl) (ea_cons (ev_var rfl) ea_nil)) (spD_v (⟨kd, n, r, R⟩ : LoA) ⟨hw, rr.nz, lf⟩)) e eb fun σ1 H1 B1 x1 e1 => ?_
  dsimp only at e1
  have ew : withRow n R r = match lead (La.left n r R) n with
    | none => R
    | some t => srt n (R.map (fun other => if other t ≠ 0 then La.without n other (La.left n r R) t else other) ++ [La.left n r R]) := rfl
  generalize hl : La.left n r R = rest at e1 ew wf
  refine s_asg (ev_call (ea_cons (ev_var rfl) ea_nil) (spD_v (⟨false, n, rest⟩ : RowA) hw)) e1 x1.le fun σ2 H2 B2 x2 e2 => ?_
  dsimp only at e2
  cases hle : lead rest n with
  | none =>
    rw [hle] at ew e2
    refine s_if (et_test (ev_isN (ev_var rfl))) e2 x2.le (fun hb H3 B3 x3 e3 => ?_) (fun hb => nomatch hb)
    refine s_ret (ev_var rfl) e3 x3.le fun u H4 B4 x4 r4 => k u H4 B4 (((x1.trans x2).trans x3).trans x4) ?_
    rw [ew]
    exact r4
  | some t =>
    rw [hle] at ew e2
    obtain ⟨wf1, wf2, wf3⟩ := wf t hle
    have hr' := isLd_iff.mp hle
    refine s_if (et_test (ev_isN (ev_var rfl))) e2 x2.le (fun hb => nomatch hb) (fun hb H3 B3 x3 e3 => ?_)
    dsimp only [tNext]
    have ew : withRow n R r = srt n (R.map (fun other : Vec => if other t ≠ 0 then La.without n other rest t else other) ++ [rest]) := ew
    generalize hg : (fun other : Vec => if other t ≠ 0 then La.without n other rest t else other) = g at ew wf2 wf3
    have gat : ∀ i, g i = if i t ≠ 0 then La.without n i rest t else i := fun i => by rw [← hg]
    refine s_asg ((en_lc (p := fun _ => true) (f := fun i => rowD false n (g (La.row R i))) (w_sq (k := true) (item := fun i => rowD false n (La.row R i)) (ev_var rfl) fun i hi => row_in hi) (by omega) (by decide) (fun _ _ => et_yes) (fun i hi _ => ?_)).dat.cast (b := rowsD true false n (R.map g)) ?_) e3 x3.le fun σ4 H4 B4 x4 e4 => ?_
    · rw [L] at hi
      have m := row_mem hi
      refine ev_if (et_test (ev_neI (ev_ix (ev_var rfl) (ev_var rfl) rfl (vec_at hr'.lt)) ev_int)) (fun hb => ?_) (fun hb => ?_)
      · have ne : La.row R i t ≠ 0 := by simpa using hb
        refine (ev_call (ea_cons (ev_var rfl) (ea_cons (ev_var rfl) (ea_cons (ev_var rfl) ea_nil))) (spD_v (⟨false, false, n, La.row R i, rest, t⟩ : WoA) ⟨hw, hr'.lt, wf1 _ m⟩)).cast ?_
        rw [gat, if_pos ne]
      · have z : La.row R i t = 0 := by simpa using hb
        refine (ev_var rfl).cast ?_
        rw [gat, if_neg (by simp [z])]
    · rw [L, picked_all]
      show PyData.list _ = PyData.list _
      congr 1
      apply List.ext_getElem?
      intro i
      by_cases hi : i < R.length
      · rw [range_at hi, List.map_map, row_at hi]
        rfl
      · rw [List.getElem?_eq_none (by simpa using hi), List.getElem?_eq_none (by simpa using hi)]
    · refine s_ret (en_sort (R := R.map g ++ [rest]) hw wf3 wf2 (ea_cons ((en_lst (ea_star (k := true) (ev_var rfl) (ea_cons (ev_var rfl) ea_nil)) (by simp; omega)).dat.cast ?_) ea_nil)).dat e4 x4.le fun u H5 B5 x5 r5 => k u H5 B5 ((((x1.trans x2).trans x3).trans x4).trans x5) ?_
      · rw [List.map_append]
        rfl
      · rw [ew]
        exact r5
structure RdA where
  kk : Bool
  k : Bool
  w : Nat
  rows : List Vec
abbrev spReduced (K : PySem.W.Frag) : Sp := spD K (fun a : RdA => [rowsD a.kk a.k a.w a.rows]) (fun a => a.w ≤ 9 ∧ RedFine a.w a.rows ∧ a.rows.length ≤ 100) fun a => rowsD true false a.w (La.reduced a.w a.rows)
theorem red_len {w : Nat} {rows : List Vec} (hw : w ≤ 9) : (La.reduced w rows).length ≤ 9 := Nat.le_trans (reduced_ok (w := w) (rows := rows)).rref.leads_lt hw
theorem red_take {w i : Nat} {rows : List Vec} (h : i < rows.length) : La.reduced w (rows.take (i + 1)) = withRow w (La.reduced w (rows.take i)) (La.row rows i) := by
  unfold La.reduced
  rw [take_row h, List.foldl_append]
  rfl
include bi in
theorem ok_reduced {f : Addr} {fd : FuncData} (F : L2.Fun K "reduced" "reduced" st_reduced f fd) (c_with_row : Wk.Cal P w K mg base 5 "with_row" (spWithRow K)) : FnOk P w K mg base CX0 6 f fd ["rows"] (spReduced K) := by
  refine okD F sc_reduced (fun _ => rfl) (by decide) fun ⟨kk, kd, n, R⟩ cdv A outer s H σ Q E B hr ⟨hw, hf, hl⟩ eb e k => ⟨_, (pss_cons (ps_set (i := 1) sc_reduced.nd rfl (by first | exact Or.inl rfl | exact Or.inr rfl) (pe_lst pa_nil))
      (pss_cons (ps_for PassesOwn.never (by rfl) (pi_sq (pv 0)) (pg_name (i := 2) sc_reduced.nd rfl (by first | exact Or.inl rfl | exact Or.inr rfl)) (pss_one (ps_set (i := 1) sc_reduced.nd rfl (by first | exact Or.inl rfl | exact Or.inr rfl) (pe_cal c_with_row hr (by decide) (by rfl) (pa_cons (pv 1) (pa_cons (pv 2) pa_nil))))))
      (pss_one (ps_ret (pv 1))))), ?_⟩
  dsimp only at hw hf hl k
  have L : (R.map (rowD kd n)).length = R.length := List.length_map ..
  refine s_asg (en_lst ea_nil (by simp)).dat e eb fun σ1 H1 B1 x1 e1 => ?_
  refine s_for (n := (R.map (rowD kd n)).length) (Gi := fun i => [.dat (rowsD kk kd n R), .dat (rowsD true false n (La.reduced n (R.take i))), .no]) (Φ := fun _ i _ _ => True) (w_sq (item := fun i => rowD kd n (La.row R i)) (ev_var rfl) fun i hi => row_in hi) e1 x1 (fun B1 H1 x1 => ⟨⟨rfl, rfl, trivial, trivial⟩, trivial⟩) (fun B1 i σ2 B' H' H'' hi X' b' φ x2 e2 => ?_) (fun B1 σ2 B' H' e' X' φ => ?_)
  · rw [L] at hi
    refine s_asg (ev_call (ea_cons (ev_var rfl) (ea_cons (ev_var rfl) ea_nil)) (spD_v (⟨kd, n, La.reduced n (R.take i), La.row R i⟩ : WrA) ⟨hw, hf i hi, red_len hw⟩)) e2 x2.le fun σ3 H3 B3 x3 e3 => ?_
    refine ⟨B3, e3.le ?_, (X'.trans x2).trans x3, b'.trans (x2.bb.trans x3.bb), trivial⟩
    try dsimp only
    rw [red_take hi]
    exact ⟨rfl, rfl, trivial, trivial⟩
  · dsimp only at e' ⊢
    rw [L, List.take_length] at e'
    exact s_ret (ev_var rfl) e' X'.le fun u H5 B5 x5 r5 => k u H5 B5 (X'.trans x5) r5
abbrev spIsRegular (K : PySem.W.Frag) : Sp := spD K (fun a : RdA => [rowsD a.kk a.k a.w a.rows]) (fun a => a.w ≤ 9 ∧ RedFine a.w a.rows ∧ a.rows.length ≤ 100) fun a => .bool (decide ((La.reduced a.w a.rows).length = a.rows.length))
include bi in
theorem ok_is_regular {f : Addr} {fd : FuncData} (F : L2.Fun K "is_regular" "is_regular" st_is_regular f fd) (c_reduced : Wk.Cal P w K mg base 6 "reduced" (spReduced K)) : FnOk P w K mg base CX0 7 f fd ["table"] (spIsRegular K) := by
  refine okD F sc_is_regular (fun _ => rfl) (by decide) fun ⟨kk, kd, n, R⟩ cdv A outer s H σ Q E B hr ⟨hw, hf, hl⟩ eb e k => ⟨_, (pss_one (ps_ret (pe_cmpR (r := rEqD K) (op_eqD hr.units) (pe_callB (r := rLenSq K) call_len_seq (by rfl) bi.len (by decide +kernel) (pa_cons (pe_cal c_reduced hr (by decide) (by rfl) (pa_cons (pv 0) pa_nil)) pa_nil)) (pe_callB (r := rLenSq K) call_len_seq (by rfl) bi.len (by decide +kernel) (pa_cons (pv 0) pa_nil)) (nomark _)))), ?_⟩
  dsimp only at hw hf hl k
  refine s_ret (ev_eqI (ev_cb (ea_cons (ev_call (ea_cons (ev_var rfl) ea_nil) (spD_v (⟨kk, kd, n, R⟩ : RdA) ⟨hw, hf, hl⟩)) ea_nil) (cv_len (k := true))) (ev_cb (ea_cons (ev_var rfl) ea_nil) cv_len)) e eb fun u H5 B5 x5 r5 => k u H5 B5 x5 ?_
  refine dpc r5 ?_
  rw [List.length_map, List.length_map]
  congr 1
  rw [Bool.eq_iff_iff]
  simp
  omega
end
end At
-- V5
namespace At
open PySem PySem.Spec PyProof.Rows L2 Wk La
abbrev st_nulls : Stmt := topS 15
abbrev N_nulls : List Str := ["rows", "wide", "basis", "free", "leads", "found", "bottom", "row", "some", "at"]
theorem sc_nulls : FnScope N_nulls ["rows", "wide"] (defScope st_nulls) := ⟨rfl, rfl, rfl, by decide +kernel, rfl, by decide +kernel, by decide +kernel⟩
structure NuA where
  kk : Bool
  k : Bool
  w : Nat
  rows : List Vec
def frs (w : Nat) (R : List Vec) (i : Nat) : List Nat := (List.range i).filter (isFree w R)
theorem frs_yes {w i : Nat} {R : List Vec} (h : isFree w R i = true) : frs w R (i + 1) = frs w R i ++ [i] := by
  unfold frs
  rw [List.range_succ, List.filter_append, List.filter_cons, if_pos h]
  rfl
theorem frs_no {w i : Nat} {R : List Vec} (h : isFree w R i = false) : frs w R (i + 1) = frs w R i := by
  unfold frs
  rw [List.range_succ, List.filter_append, List.filter_cons, if_neg (by rw [h]; decide)]
  simp
theorem frs_len {w i : Nat} {R : List Vec} : (frs w R i).length ≤ i := by
  have := List.length_filter_le (isFree w R) (List.range i)
  rwa [List.length_range] at this
theorem free_mem {w i : Nat} {R : List Vec} : (!decide ((i : Int) ∈ R.map fun r => (ld w r : Int))) = isFree w R i := by
  unfold isFree
  rw [Bool.eq_iff_iff]
  simp only [Bool.not_eq_true', decide_eq_false_iff_not, decide_eq_true_eq, List.mem_map, not_exists, not_and]
  constructor
  · intro h r hr e
    exact h r hr (by rw [e])
  · intro h r hr e
    exact h r hr (by omega)
theorem vec_set {w m : Nat} {s : Vec} {x : Int} : (vec w s).set m (.int x) = vec w (La.upd s m x) := by
  apply List.ext_getElem?
  intro i
  by_cases hm : m = i
  · subst hm
    by_cases h : m < w
    · rw [List.getElem?_set_self (by rw [vec_len]; exact h), vec_at h]
      unfold La.upd
      rw [if_pos rfl]
    · rw [List.getElem?_eq_none (by rw [List.length_set, vec_len]; omega), List.getElem?_eq_none (by rw [vec_len]; omega)]
  · rw [List.getElem?_set_ne hm]
    by_cases h : i < w
    · rw [vec_at h, vec_at h]
      unfold La.upd
      rw [if_neg (fun e => hm e.symm)]
    · rw [List.getElem?_eq_none (by rw [vec_len]; omega), List.getElem?_eq_none (by rw [vec_len]; omega)]
section
variable {P : Program} {w : World} {K : PySem.W.Frag} {mg : Str → Option Value} {base : Heap} (bi : Bi mg)
abbrev spNulls (K : PySem.W.Frag) : Sp := spD K (fun a : NuA => [rowsD a.kk a.k a.w a.rows, .int (a.w : Int)]) (fun a => a.w ≤ 9 ∧ NullFine a.w a.rows ∧ a.rows.length ≤ 100) fun a => rowsD true false a.w (nulls a.w a.rows)
include bi in
theorem ok_nulls {f : Addr} {fd : FuncData} (F : L2.Fun K "nulls" "nulls" st_nulls f fd) (c_reduced : Wk.Cal P w K mg base 6 "reduced" (spReduced K)) (c_lead_of : Wk.Cal P w K mg base 1 "lead_of" (spLeadOf K)) (c_shared : Wk.Cal P w K mg base 1 "shared" (spShared K)) : FnOk P w K mg base CX0 7 f fd ["rows", "wide"] (spNulls K) := by
  refine okD F sc_nulls (fun _ => rfl) (by decide) fun ⟨kk, kd, n, rows⟩ cdv A outer s H σ Q E B hr ⟨hw, ⟨f1, f2, f3, f4⟩, hl⟩ eb e k => ⟨_, (pss_cons (ps_set (i := 2) sc_nulls.nd rfl (by first | exact Or.inl rfl | exact Or.inr rfl) (pe_cal c_reduced hr (by decide) (by rfl) (pa_cons (pv 0) pa_nil)))
      (pss_cons (ps_par (i := 4) (j := 5) (by rfl) sc_nulls.nd rfl rfl (by decide) rfl rfl (pa_cons (pe_lc (own := [("row", 7)]) (wi := iSq K _) (g := gName 7) (by rfl) sc_nulls.nd (pi_sq (pv 2)) (blkOk_by (N := N_nulls) (sc := (defScope st_nulls)) (by decide +kernel)) (fun _ _ _ _ _ => (pg_name (i := 7) sc_nulls.nd rfl (by first | exact Or.inl rfl | exact Or.inr rfl))) (fun _ _ _ _ _ => pts_nil) (fun _ _ _ _ _ => (pe_cal c_lead_of hr (by decide) (by rfl) (pa_cons (pv 7) pa_nil)))) (pa_cons (pe_lst pa_nil) pa_nil)) (by rfl))
      (pss_cons (ps_for PassesOwn.never (by rfl) (pi_range1 (by rfl) bi.range (pa_cons (pv 1) pa_nil)) (pg_name (i := 3) sc_nulls.nd rfl (by first | exact Or.inl rfl | exact Or.inr rfl)) (pss_one (ps_if (pt_cmpR (r := rIn K true) op_notIn_seq (pv 3) (pv 4) (by rfl)) (pss_cons (ps_set (i := 6) sc_nulls.nd rfl (by first | exact Or.inl rfl | exact Or.inr rfl) pe_int)
      (pss_cons (ps_for PassesOwn.never (by rfl) (pi_sq (pv 2)) (pg_name (i := 7) sc_nulls.nd rfl (by first | exact Or.inl rfl | exact Or.inr rfl)) (pss_one (ps_set (i := 6) sc_nulls.nd rfl (by first | exact Or.inl rfl | exact Or.inr rfl) (pe_op op_fdivG (pe_op op_mulW (pv 6) (pe_ix (r := rIx K) ix_seq (pv 7) (pe_cal c_lead_of hr (by decide) (by rfl) (pa_cons (pv 7) pa_nil)) (fun _ _ => rfl))) (pe_cal c_shared hr (by decide) (by rfl) (pa_cons (pv 6) (pa_cons (pe_ix (r := rIx K) ix_seq (pv 7) (pe_cal c_lead_of hr (by decide) (by rfl) (pa_cons (pv 7) pa_nil)) (fun _ _ => rfl)) pa_nil)))))))
      (pss_cons (ps_setLc (own := [("at", 9)]) (wi := _) (g := gName 9) (i := 8) rfl sc_nulls.nd rfl rfl rfl (pi_range1 (by rfl) bi.range (pa_cons (pv 1) pa_nil)) (blkOk_by (N := N_nulls) (sc := (defScope st_nulls)) (by decide +kernel)) (fun _ _ _ _ _ => (pg_name (i := 9) sc_nulls.nd rfl (by first | exact Or.inl rfl | exact Or.inr rfl))) (fun _ _ _ _ _ => pts_nil) (fun _ _ _ _ _ => (pe_ifExp (pt_cmpR (r := rEqD K) (op_eqD hr.units) (pv 9) (pv 3) (nomark _)) (pv 6) pe_int)))
      (pss_cons (ps_for PassesOwn.never (by rfl) (pi_sq (pv 2)) (pg_name (i := 7) sc_nulls.nd rfl (by first | exact Or.inl rfl | exact Or.inr rfl)) (pss_one (ps_asg (pe_op op_fdivG (pe_op op_mulW (pe_un un_neg (pe_ix (r := rIx K) ix_seq (pv 7) (pv 3) (fun _ _ => rfl))) (pv 6)) (pe_ix (r := rIx K) ix_seq (pv 7) (pe_cal c_lead_of hr (by decide) (by rfl) (pa_cons (pv 7) pa_nil)) (fun _ _ => rfl))) (pg_sub (pv 8) (pe_cal c_lead_of hr (by decide) (by rfl) (pa_cons (pv 7) pa_nil)) set_list))))
      (pss_one (ps_expr (pe_bm PySem.F.plainAttrs_list PySem.F.slot_list_append PySem.F.type_list_append mt_append (pv 5) (pa_cons (pv 8) pa_nil)))))))) pss_nil)))
      (pss_one (ps_ret (pe_cal c_reduced hr (by decide) (by rfl) (pa_cons (pv 5) pa_nil))))))), ?_⟩
  dsimp only at hw f1 f2 f3 f4 hl k
  have RR := (reduced_ok (w := n) (rows := rows)).rref
  have R9 := red_len (rows := rows) hw
  refine s_asg (ev_call (ea_cons (ev_var rfl) ea_nil) (spD_v (⟨kk, kd, n, rows⟩ : RdA) ⟨hw, f1, hl⟩)) e eb fun σ1 H1 B1 x1 e1 => ?_
  dsimp only at e1
  have en : nulls n rows = La.reduced n (founds n (La.reduced n rows)) := rfl
  rw [en] at k
  generalize La.reduced n rows = R at *
  have L : (R.map (rowD false n)).length = R.length := List.length_map ..
  have ldc : ∀ {G : Gam} {te : TE} (i : Nat), i < R.length → ED K te G (rowD false n (La.row R i)) → ED K (tCall (spLeadOf K) [] E0 (tCons te tNil)) G (.int (ld n (La.row R i) : Int)) := fun i hi h => (ev_call (ea_cons h ea_nil) (spD_v (⟨false, n, La.row R i⟩ : RowA) hw)).cast (optD_nz (RR.nz _ (row_mem hi)))
  refine s_parN ((en_lc (p := fun _ => true) (f := fun i => .int (ld n (La.row R i) : Int)) (w_sq (k := true) (item := fun i => rowD false n (La.row R i)) (ev_var rfl) fun i hi => row_in hi) (by omega) (by decide) (fun _ _ => et_yes) (fun i hi _ => ldc i (by omega) (ev_var rfl))).dat.cast (b := .list ((R.map fun r => (ld n r : Int)).map .int)) ?_) (en_lst ea_nil (by simp)) e1 x1.le fun p xs σ2 H2 B2 hp x2 h2 b2 r2 e2 => ?_
  · rw [L, picked_all]
    congr 1
    apply List.ext_getElem?
    intro i
    by_cases hi : i < R.length
    · rw [range_at hi, List.map_map, row_at hi]
      rfl
    · rw [List.getElem?_eq_none (by simpa using hi), List.getElem?_eq_none (by simpa using hi)]
  have n0 : H p = none := Evl.fresh_back x1.ex hp
  let fnd : Nat → List D := fun i => ((frs n R i).map (nullP n R (botP n R))).map (rowD true n)
  have fl : ∀ i, (fnd i).length ≤ i := fun i => by
    show (((frs n R i).map (nullP n R (botP n R))).map (rowD true n)).length ≤ i
    rw [List.length_map, List.length_map]
    exact frs_len
  let ldD : D := .list ((R.map fun r => (ld n r : Int)).map .int)
  let Gi : Nat → Gam := fun _ => [.dat (rowsD kk kd n rows), .dat (.int (n : Int)), .dat (rowsD true false n R), .no, .dat ldD, .val (.ref p), .no, .no, .no, .no]
  refine s_for (n := (n : Int).toNat) (B0 := B) (H0 := H) (Gi := Gi) (Φ := fun _ i B' H' => Own K p (fnd i) B' H') (w_rng1 (ea_cons (ev_var rfl) ea_nil) ⟨by omega, by omega⟩) e2 (x1.trans x2) (fun B1 H1 x1 => ⟨⟨rfl, rfl, rfl, trivial, rfl, rfl, trivial, trivial, trivial, trivial, trivial⟩, (Own.to h2 b2 r2).ext x1⟩) (fun B1 i σ3 B3 H3 H4 hi X3 b3 o3 x4 e3 => ?_) (fun B1 σ3 B3 H3 e3 X3 o3 => ?_)
  · have hi : i < n := by omega
    have o4 := o3.ext x4
    have X4 := X3.trans x4
    refine s_if (et_test (ev_notIn (k := true) (ev_var rfl) (ev_var rfl))) e3 x4.le (fun hb H5 B5 x5 e5 => ?_) (fun hb H5 B5 x5 e5 => ?_)
    · rw [free_mem] at hb
      have o5 := o4.ext x5
      have X5 := X4.trans x5
      refine s_asg ev_int e5 x5.le fun σ6 H6 B6 x6 e6 => ?_
      have o6 := o5.ext x6
      have X6 := X5.trans x6
      let Gj : Nat → Gam := fun j => [.dat (rowsD kk kd n rows), .dat (.int (n : Int)), .dat (rowsD true false n R), .dat (.int (i : Int)), .dat ldD, .val (.ref p), .dat (.int (botP n (R.take j))), .no, .no, .no]
      refine s_for (n := (R.map (rowD false n)).length) (B0 := B) (H0 := H) (Gi := Gj) (Φ := fun _ _ B' H' => Evl.Ex B6 B' ∧ Own K p (fnd i) B' H') (w_sq (k := true) (item := fun i => rowD false n (La.row R i)) (ev_var rfl) fun i hi => row_in hi) e6 X6 (fun B1 H1 x1 => ⟨⟨rfl, rfl, rfl, rfl, rfl, rfl, rfl, trivial, trivial, trivial, trivial⟩, x1.bb, o6.ext x1⟩) (fun B7 j σ7 B8 H8 H9 hj X8 b8 ⟨c8, o8⟩ x9 e9 => ?_) (fun B7 σ7 B8 H8 e8 X8 ⟨c8, o8⟩ => ?_)
      · rw [L] at hj
        have m := row_mem hj
        have isl := (RR.nz _ m).isLd
        have lb := f2 _ m _ isl.lt
        have bb := f3 j (by omega)
        have g0 : gcdI (botP n (R.take j)) (La.row R j (ld n (La.row R j))) ≠ 0 := by
          unfold gcdI
          have := Int.gcd_ne_zero_right (a := botP n (R.take j)) isl.ne
          omega
        have gb : (gcdI (botP n (R.take j)) (La.row R j (ld n (La.row R j)))).natAbs < 2 ^ 9000 := by
          refine Nat.lt_of_le_of_lt ?_ lb
          have := isl.ne
          exact Nat.le_of_dvd (by omega) (Int.natAbs_dvd_natAbs.mpr (Int.gcd_dvd_right _ _))
        have ix : ∀ {G : Gam}, G[7]? = some (.dat (rowD false n (La.row R j))) → ED K (tOp (rIx K) (tVar 7) (tCall (spLeadOf K) [] E0 (tCons (tVar 7) tNil))) G (.int (La.row R j (ld n (La.row R j)))) := fun h => ev_ix (ev_var h) (ldc j hj (ev_var h)) rfl (vec_at isl.lt)
        refine s_asg (ev_fdiv (ev_mul (ev_var rfl) (ix rfl) (mul9 bb lb)) (ev_call (ea_cons (ev_var rfl) (ea_cons (ix rfl) ea_nil)) (spD_v (botP n (R.take j), La.row R j (ld n (La.row R j))) trivial)) ⟨g0, log_lt gb (by omega)⟩) e9 x9.le fun σ10 H10 B10 x10 e10 => ?_
        refine ⟨B10, e10.le ?_, (X8.trans x9).trans x10, b8.trans (x9.bb.trans x10.bb), c8.trans (x9.bb.trans x10.bb), (o8.ext x9).ext x10⟩
        have eb : botP n (R.take (j + 1)) = (botP n (R.take j) * La.row R j (ld n (La.row R j))).fdiv (gcdI (botP n (R.take j)) (La.row R j (ld n (La.row R j)))) := by
          unfold botP
          rw [take_row hj, List.foldl_append]
          rfl
        show Gle [_, _, _, _, _, _, .dat (.int (botP n (R.take (j + 1)))), _, _, _] _
        rw [eb]
        exact ⟨rfl, rfl, rfl, rfl, rfl, rfl, rfl, trivial, trivial, trivial, trivial⟩
      · dsimp only at e8 ⊢
        have e8 : Env K B8 σ7 (Gj R.length) := by rw [← L]; exact e8
        have e8 : Env K B8 σ7 [.dat (rowsD kk kd n rows), .dat (.int (n : Int)), .dat (rowsD true false n R), .dat (.int (i : Int)), .dat ldD, .val (.ref p), .dat (.int (botP n R)), .no, .no, .no] := by
          have := e8
          show Env K B8 σ7 _
          rw [show botP n R = botP n (R.take R.length) from by rw [List.take_length]]
          exact this
        have bb := f3 R.length (Nat.le_refl _)
        rw [List.take_length] at bb
        generalize hbt : botP n R = bt at *
        refine s_asgN (en_lc (p := fun _ => true) (f := fun a => .int (if a = i then bt else 0)) (w_rng1 (ea_cons (ev_var rfl) ea_nil) ⟨by omega, by omega⟩) (by omega) (by decide) (fun _ _ => et_yes) (fun a ha _ => ev_if (et_test (ev_eqI (ev_var rfl) (ev_var rfl))) (fun q => (ev_var rfl).cast ?_) fun q => ev_int.cast ?_)) e8 X8.le fun ps ys σ9 H9 B9 hps x9 h9 b9 r9 e9 => ?_
        · have : a = i := by have := eq_of_beq q; omega
          rw [if_pos this]
        · have : a ≠ i := by
            intro z
            rw [z] at q
            simp at q
          rw [if_neg this]
        · have o9 := o8.ext x9
          have ne : ps ≠ p := o8.ne hps
          have nps : H ps = none := Evl.fresh_back X8.ex hps
          have os : Own K ps (vec n fun a => if a = i then bt else 0) B9 H9 := by
            have := Own.to h9 b9 r9
            rw [picked_all] at this
            exact this
          have X9 := X8.trans x9
          let sm : Nat → Vec := fun j => (R.take j).foldl (fun s r => La.upd s (ld n r) ((-(r i) * bt).fdiv (r (ld n r)))) fun a => if a = i then bt else 0
          let Gk : Nat → Gam := fun j => [.dat (rowsD kk kd n rows), .dat (.int (n : Int)), .dat (rowsD true false n R), .dat (.int (i : Int)), .dat ldD, .val (.ref p), .dat (.int bt), .no, .val (.ref ps), .no]
          refine s_for (n := (R.map (rowD false n)).length) (B0 := B) (H0 := H) (Gi := Gk) (Φ := fun _ j B' H' => Evl.Ex B9 B' ∧ Own K p (fnd i) B' H' ∧ Own K ps (vec n (sm j)) B' H') (w_sq (k := true) (item := fun i => rowD false n (La.row R i)) (ev_var rfl) fun i hi => row_in hi) e9 X9 (fun B1 H1 x1 => ⟨⟨rfl, rfl, rfl, rfl, rfl, rfl, rfl, trivial, rfl, trivial, trivial⟩, x1.bb, o9.ext x1, os.ext x1⟩) (fun B10 j σ10 B11 H11 H12 hj X11 b11 ⟨c11, o11⟩ x12 e12 => ?_) (fun B10 σ10 B11 H11 e11 X11 ⟨c11, o11⟩ => ?_)
          · rw [L] at hj
            have m := row_mem hj
            have isl := (RR.nz _ m).isLd
            have lb := f2 _ m _ isl.lt
            refine Own.setL (ev_val rfl) (ldc j hj (ev_var rfl)) rfl (ev_fdiv (ev_mul (ev_neg (ev_ix (ev_var rfl) (ev_var rfl) rfl (vec_at hi))) (ev_var rfl) (mul9 ?_ bb)) (ev_ix (ev_var rfl) (ldc j hj (ev_var rfl)) rfl (vec_at isl.lt)) ⟨isl.ne, log_lt lb (by omega)⟩) e12 (X11.trans x12) nps (o11.2.ext x12) (by rw [vec_len]; exact isl.lt) fun H13 B13 X13 kp o13 e13 => ?_
            · rw [Int.natAbs_neg]
              exact f2 _ m _ hi
            · refine ⟨B13, e13.le ?_, X13, (b11.trans x12.bb).trans kp.bb, (c11.trans x12.bb).trans kp.bb, kp.own p _ (fun z => ne z.symm) (o11.1.ext x12), ?_⟩
              · exact ⟨rfl, rfl, rfl, rfl, rfl, rfl, rfl, trivial, rfl, trivial, trivial⟩
              · rw [vec_set] at o13
                have es : sm (j + 1) = La.upd (sm j) (ld n (La.row R j)) ((-(La.row R j i) * bt).fdiv (La.row R j (ld n (La.row R j)))) := by
                  show (R.take (j + 1)).foldl _ _ = _
                  rw [take_row hj, List.foldl_append]
                  rfl
                rw [es]
                exact o13
          · dsimp only at e11 ⊢
            rw [L] at o11
            have es : sm R.length = nullP n R bt i := by
              show (R.take R.length).foldl _ _ = _
              rw [List.take_length]
              rfl
            rw [es] at o11
            obtain ⟨B12, e12, X12, b12, kp⟩ := o11.2.show_ e11 X11 nps (i := 8) rfl
            have o12 := kp p _ (fun z => ne z.symm) o11.1
            refine o12.app rfl (ev_var rfl) e12 X12 n0 (Nat.lt_of_le_of_lt (fl i) (by omega)) fun H13 B13 X13 kp2 o13 e13 => ?_
            refine ⟨B13, e13.le ?_, X13, ?_, ?_⟩
            · exact ⟨rfl, rfl, rfl, trivial, rfl, rfl, trivial, trivial, trivial, trivial, trivial⟩
            · exact (((((((b3.trans x4.bb).trans x5.bb).trans x6.bb).trans c8).trans x9.bb).trans c11).trans b12).trans kp2.bb
            · have ef : fnd (i + 1) = fnd i ++ [rowD true n (nullP n R bt i)] := by
                show ((frs n R (i + 1)).map (nullP n R (botP n R))).map (rowD true n) = ((frs n R i).map (nullP n R (botP n R))).map (rowD true n) ++ _
                rw [frs_yes hb, List.map_append, List.map_append, hbt]
                rfl
              rw [ef]
              exact o13
    · rw [free_mem] at hb
      dsimp only [tNext]
      refine ⟨B5, e5.le ?_, X4.trans x5, b3.trans (x4.bb.trans x5.bb), ?_⟩
      · exact ⟨rfl, rfl, rfl, trivial, rfl, rfl, trivial, trivial, trivial, trivial, trivial⟩
      · have ef : fnd (i + 1) = fnd i := by
          show ((frs n R (i + 1)).map (nullP n R (botP n R))).map (rowD true n) = _
          rw [frs_no hb]
        rw [ef]
        exact o4.ext x5
  · dsimp only at e3 ⊢
    rw [show (n : Int).toNat = n from rfl] at o3 e3
    obtain ⟨B4, e4, X4, b4, kp⟩ := o3.show_ e3 X3 n0 (i := 5) rfl
    refine s_ret (ev_call (ea_cons (ev_var rfl) ea_nil) (spD_v (⟨true, true, n, founds n R⟩ : RdA) ⟨hw, f4, ?_⟩)) e4 X4.le fun u H5 B5 x5 r5 => k u H5 B5 (X4.trans x5) r5
    have := fl n
    show ((frs n R n).map (nullP n R (botP n R))).length ≤ 100
    rw [List.length_map]
    have := frs_len (w := n) (i := n) (R := R)
    omega
end
end At
-- V6
namespace At
open PySem PySem.Spec PyProof.Rows L2 Wk La
abbrev st_folded : Stmt := topS 8
abbrev N_folded : List Str := ["row", "size", "at"]
theorem sc_folded : FnScope N_folded ["row", "size"] (defScope st_folded) := ⟨rfl, rfl, rfl, by decide +kernel, rfl, by decide +kernel, by decide +kernel⟩
abbrev st_sums_for : Stmt := topS 34
abbrev N_sums_for : List Str := ["size", "one", "other", "rows", "at", "k", "row", "j", "part"]
theorem sc_sums_for : FnScope N_sums_for ["size", "one", "other"] (defScope st_sums_for) := ⟨rfl, rfl, rfl, by decide +kernel, rfl, by decide +kernel, by decide +kernel⟩
abbrev st_changes_between : Stmt := topS 36
abbrev N_changes_between : List Str := ["tables", "others", "size", "rows", "one", "other", "row"]
theorem sc_changes_between : FnScope N_changes_between ["tables", "others"] (defScope st_changes_between) := ⟨rfl, rfl, rfl, by decide +kernel, rfl, by decide +kernel, by decide +kernel⟩
/-- a table; some tables -/
def tabD (n : Nat) (T : Tb) : D := .tuple ((List.range n).map fun i => rowD false n (T i))
def tabsD (k : Bool) (n : Nat) (Ts : List Tb) : D := sqD k (Ts.map (tabD n))
theorem tab_at {α : Type} {Ts : List Tb} {f : Tb → α} {i : Nat} (h : i < Ts.length) : (Ts.map f)[i]? = some (f (tbl Ts i)) := by
  rw [List.getElem?_map, List.getElem?_eq_getElem h]
  unfold tbl
  rw [List.getD_eq_getElem?_getD, List.getElem?_eq_getElem h]
  rfl
theorem tab_in {α β : Type} {Ts : List Tb} {f : Tb → α} {g : Tb → β} {i : Nat} (h : i < (Ts.map g).length) : (Ts.map f)[i]? = some (f (tbl Ts i)) := tab_at (by rwa [List.length_map] at h)
theorem vec_cut {w a b : Nat} {v : Vec} (h1 : a ≤ b) (h2 : b ≤ w) : cutD (vec w v) (some (a : Int)) (some (b : Int)) = vec (b - a) fun j => v (a + j) := by
  rw [cut_eq h1 (by rw [vec_len]; exact h2)]
  apply List.ext_getElem?
  intro i
  by_cases h : i < b - a
  · rw [List.getElem?_take_of_lt h, List.getElem?_drop, vec_at (by omega), vec_at h]
  · rw [List.getElem?_eq_none (by rw [List.length_take]; omega), List.getElem?_eq_none (by rw [vec_len]; omega)]
structure FoA where
  k : Bool
  n : Nat
  v : Vec
structure SuA where
  n : Nat
  one : Tb
  other : Tb
structure TsA where
  n : Nat
  Ts : List Tb
  Os : List Tb
section
variable {P : Program} {w : World} {K : PySem.W.Frag} {mg : Str → Option Value} {base : Heap} (bi : Bi mg)
theorem ev_cell {G : Gam} {ta tb tc : TE} {n i j : Nat} {x y : Int} {T : Tb} (h : ED K ta G (tabD n T)) (hi : ED K tb G (.int x)) (hj : ED K tc G (.int y)) (ex : x = (i : Int)) (ey : y = (j : Int)) (li : i < n) (lj : j < n) : ED K (tOp (rIx K) (tOp (rIx K) ta tb) tc) G (.int (T i j)) :=
  ev_ix (k := false) (ds := vec n (T i)) (ev_ix (k := false) h hi ex (range_at li)) hj ey (vec_at lj)
abbrev spFolded (K : PySem.W.Frag) : Sp := spD K (fun a : FoA => [rowD a.k (a.n * a.n) a.v, .int (a.n : Int)]) (fun a => a.n ≤ 3) fun a => tabD a.n (tabOf a.n a.v)
include bi in
theorem ok_folded {f : Addr} {fd : FuncData} (F : L2.Fun K "folded" "folded" st_folded f fd) : FnOk P w K mg base CX0 1 f fd ["row", "size"] (spFolded K) := by
  refine okD F sc_folded (fun _ => rfl) (by decide) fun ⟨kd, n, v⟩ cdv A outer s H σ Q E B hr hn eb e k => ⟨_, (pss_one (ps_ret (pe_callTy (r := rTupOf K) call_tuple_of (by rfl) bi.tuple (by decide +kernel) (pa_cons (pe_lc (own := [("at", 2)]) (wi := _) (g := gName 2) (by rfl) sc_folded.nd (pi_range1 (by rfl) bi.range (pa_cons (pv 1) pa_nil)) (blkOk_by (N := N_folded) (sc := (defScope st_folded)) (by decide +kernel)) (fun _ _ _ _ _ => (pg_name (i := 2) sc_folded.nd rfl (by first | exact Or.inl rfl | exact Or.inr rfl))) (fun _ _ _ _ _ => pts_nil) (fun _ _ _ _ _ => (pe_callTy (r := rTupOf K) call_tuple_of (by rfl) bi.tuple (by decide +kernel) (pa_cons (pe_slice (r := rSlB K) sl_any (pv 0) (po_some (pe_op op_mulW (pv 1) (pv 2))) (po_some (pe_op op_add (pe_op op_mulW (pv 1) (pv 2)) (pv 1)))) pa_nil)))) pa_nil)))), ?_⟩
  dsimp only at e hn k
  have sm : ∀ i : Nat, i < n → CMulW (n : Int) (i : Int) := fun i hi => mul9 (Nat.lt_of_lt_of_le (show ((n : Int)).natAbs < 2 ^ 2 by omega) (Nat.pow_le_pow_right (by decide) (by omega))) (Nat.lt_of_lt_of_le (show ((i : Int)).natAbs < 2 ^ 2 by omega) (Nat.pow_le_pow_right (by decide) (by omega)))
  refine s_ret (ev_cb (ea_cons (en_lc (p := fun _ => true) (f := fun i => rowD false n (tabOf n v i)) (w_rng1 (ea_cons (ev_var rfl) ea_nil) ⟨by omega, by omega⟩) (by omega) (by decide) (fun _ _ => et_yes) (fun i hi _ => ?_)).dat ea_nil) (cv_tuple (k := true))) e eb fun u H5 B5 x5 r5 => k u H5 B5 x5 ?_
  · have hi : i < n := by omega
    refine (ev_cb (ea_cons (ev_slice (k := kd) (ev_var rfl) (eo_some (ev_mul (ev_var rfl) (ev_var rfl) (sm i hi))) (eo_some (ev_add (ev_mul (ev_var rfl) (ev_var rfl) (sm i hi)) (ev_var rfl)))) ea_nil) cv_tuple).cast ?_
    have e1 : (n : Int) * (i : Int) = ((n * i : Nat) : Int) := by rw [Int.natCast_mul]
    rw [e1, ← Int.natCast_add, vec_cut (by omega) (by have := ix_lt hi (show n - 1 < n by omega); omega)]
    show PyData.tuple _ = PyData.tuple _
    congr 1
    rw [show n * i + n - n * i = n by omega]
    rfl
  · rw [picked_all] at r5
    exact r5
abbrev spSumsFor (K : PySem.W.Frag) : Sp := spN K (fun a : SuA => [.int (a.n : Int), tabD a.n a.one, tabD a.n a.other]) (fun a => a.n ≤ 3) fun a => (sumsFor a.n a.one a.other).map (rowD true (a.n * a.n))
theorem flat_len {n m : Nat} {f : Nat → Nat → Vec} : ((List.range m).flatMap fun a => (List.range n).map (f a)).length = m * n := by
  induction m with
  | zero => simp
  | succ m ih => rw [List.range_succ, List.flatMap_append, List.length_append, ih, Nat.succ_mul]; simp
include bi in
theorem ok_sums_for {f : Addr} {fd : FuncData} (F : L2.Fun K "sums_for" "sums_for" st_sums_for f fd) : FnOk P w K mg base CX0 1 f fd ["size", "one", "other"] (spSumsFor K) := by
  refine okN F sc_sums_for (fun _ => rfl) (by decide) fun ⟨n, one, other⟩ cdv A outer s H σ Q E B hr hn eb e k => ⟨_, (pss_cons (ps_set (i := 3) sc_sums_for.nd rfl (by first | exact Or.inl rfl | exact Or.inr rfl) (pe_lst pa_nil))
      (pss_cons (ps_for PassesOwn.never (by rfl) (pi_range1 (by rfl) bi.range (pa_cons (pv 0) pa_nil)) (pg_name (i := 4) sc_sums_for.nd rfl (by first | exact Or.inl rfl | exact Or.inr rfl)) (pss_one (ps_for PassesOwn.never (by rfl) (pi_range1 (by rfl) bi.range (pa_cons (pv 0) pa_nil)) (pg_name (i := 5) sc_sums_for.nd rfl (by first | exact Or.inl rfl | exact Or.inr rfl)) (pss_cons (ps_setLc (own := [("part", 8)]) (wi := _) (g := gName 8) (i := 6) rfl sc_sums_for.nd rfl rfl rfl (pi_range1 (by rfl) bi.range (pa_cons (pe_op op_mulW (pv 0) (pv 0)) pa_nil)) (blkOk_by (N := N_sums_for) (sc := (defScope st_sums_for)) (by decide +kernel)) (fun _ _ _ _ _ => (pg_name (i := 8) sc_sums_for.nd rfl (by first | exact Or.inl rfl | exact Or.inr rfl))) (fun _ _ _ _ _ => pts_nil) (fun _ _ _ _ _ => pe_int))
      (pss_cons (ps_for PassesOwn.never (by rfl) (pi_range1 (by rfl) bi.range (pa_cons (pv 0) pa_nil)) (pg_name (i := 7) sc_sums_for.nd rfl (by first | exact Or.inl rfl | exact Or.inr rfl)) (pss_cons (ps_augS (pv 6) (pe_op op_add (pe_op op_mulW (pv 0) (pv 4)) (pv 7)) get_listN (pe_ix (r := rIx K) ix_seq (pe_ix (r := rIx K) ix_seq (pv 1) (pv 7) (fun _ _ => rfl)) (pv 5) (fun _ _ => rfl)) ip_add set_list)
      (pss_one (ps_augS (pv 6) (pe_op op_add (pe_op op_mulW (pv 0) (pv 7)) (pv 5)) get_listN (pe_ix (r := rIx K) ix_seq (pe_ix (r := rIx K) ix_seq (pv 2) (pv 4) (fun _ _ => rfl)) (pv 7) (fun _ _ => rfl)) ip_sub set_list))))
      (pss_one (ps_expr (pe_bm PySem.F.plainAttrs_list PySem.F.slot_list_append PySem.F.type_list_append mt_append (pv 3) (pa_cons (pv 6) pa_nil)))))))))
      (pss_one (ps_ret (pv 3))))), ?_⟩
  dsimp only at e hn k
  have sm : ∀ i : Nat, i ≤ n → CMulW (n : Int) (i : Int) := fun i hi => mul9 (Nat.lt_of_lt_of_le (show ((n : Int)).natAbs < 2 ^ 2 by omega) (Nat.pow_le_pow_right (by decide) (by omega))) (Nat.lt_of_lt_of_le (show ((i : Int)).natAbs < 2 ^ 2 by omega) (Nat.pow_le_pow_right (by decide) (by omega)))
  have n9 : n * n ≤ 9 := by
    have : n = 0 ∨ n = 1 ∨ n = 2 ∨ n = 3 := by omega
    rcases this with rfl | rfl | rfl | rfl <;> decide
  refine s_asgN (en_lst ea_nil (by simp)) e eb fun p xs σ1 H1 B1 hp x1 h1 b1 r1 e1 => ?_
  let G0 : Ent → Ent → Ent → Gam := fun a b c => [.dat (.int (n : Int)), .dat (tabD n one), .dat (tabD n other), .val (.ref p), a, b, c, .no, .no]
  let rw1 : Nat → List Vec := fun a => (List.range a).flatMap fun a => (List.range n).map fun k => sumsRow n one other a k
  let rw2 : Nat → Nat → List Vec := fun a k => rw1 a ++ (List.range k).map fun k => sumsRow n one other a k
  let dd : List Vec → List D := fun R => R.map (rowD true (n * n))
  refine s_for (n := (n : Int).toNat) (B0 := B) (H0 := H) (Gi := fun _ => G0 .no .no .no) (Φ := fun _ a B' H' => Own K p (dd (rw1 a)) B' H') (w_rng1 (ea_cons (ev_var rfl) ea_nil) ⟨by omega, by omega⟩) e1 x1 (fun B2 H2 x2 => ⟨⟨rfl, rfl, rfl, rfl, trivial, trivial, trivial, trivial, trivial, trivial⟩, (Own.to h1 b1 r1).ext x2⟩) (fun B2 a σ3 B3 H3 H4 ha X3 b3 o3 x4 e3 => ?_) (fun B2 σ3 B3 H3 e3 X3 o3 => ?_)
  · have ha : a < n := by omega
    refine s_for (n := (n : Int).toNat) (B0 := B) (H0 := H) (Gi := fun _ => G0 (.dat (.int (a : Int))) .no .no) (Φ := fun _ k B' H' => Evl.Ex B2 B' ∧ Own K p (dd (rw2 a k)) B' H') (w_rng1 (ea_cons (ev_var rfl) ea_nil) ⟨by omega, by omega⟩) e3 (X3.trans x4) (fun B5 H5 x5 => ⟨⟨rfl, rfl, rfl, rfl, rfl, trivial, trivial, trivial, trivial, trivial⟩, b3.trans (x4.bb.trans x5.bb), ?_⟩) (fun B5 k σ6 B6 H6 H7 hk X6 b6 ⟨c6, o6⟩ x7 e6 => ?_) (fun B5 σ6 B6 H6 e6 X6 ⟨c6, o6⟩ => ?_)
    · have er : rw2 a 0 = rw1 a := by show rw1 a ++ [] = rw1 a; rw [List.append_nil]
      rw [er]
      exact (o3.ext x4).ext x5
    · have hk : k < n := by omega
      refine s_asgN (en_lc (p := fun _ => true) (f := fun _ => .int 0) (w_rng1 (ea_cons (ev_mul (ev_var rfl) (ev_var rfl) (sm n (Nat.le_refl _))) ea_nil) ⟨by rw [← Int.natCast_mul]; omega, by rw [← Int.natCast_mul]; omega⟩) (by rw [← Int.natCast_mul]; omega) (by decide) (fun _ _ => et_yes) (fun i hi _ => ev_int)) e6 x7.le fun ps ys σ8 H8 B8 hps x8 h8 b8 r8 e8 => ?_
      have o7 := o6.ext x7
      have ne : ps ≠ p := o7.ne hps
      have X7 := X6.trans x7
      have nps : H ps = none := Evl.fresh_back X7.ex hps
      have np : H p = none := hp
      have os : Own K ps (vec (n * n) fun _ => 0) B8 H8 := by
        have := Own.to h8 b8 r8
        rw [picked_all, ← Int.natCast_mul] at this
        exact this
      let smj : Nat → Vec := fun j => (List.range j).foldl (sumsStep n one other a k) fun _ => 0
      refine s_for (n := (n : Int).toNat) (B0 := B) (H0 := H) (Gi := fun _ => G0 (.dat (.int (a : Int))) (.dat (.int (k : Int))) (.val (.ref ps))) (Φ := fun _ j B' H' => Evl.Ex B8 B' ∧ Own K p (dd (rw2 a k)) B' H' ∧ Own K ps (vec (n * n) (smj j)) B' H') (w_rng1 (ea_cons (ev_var rfl) ea_nil) ⟨by omega, by omega⟩) e8 (X7.trans x8) (fun B9 H9 x9 => ⟨⟨rfl, rfl, rfl, rfl, rfl, rfl, rfl, trivial, trivial, trivial⟩, x9.bb, (o7.ext x8).ext x9, os.ext x9⟩) (fun B9 j σ10 B10 H10 H11 hj X10 b10 ⟨c10, o10, q10⟩ x11 e10 => ?_) (fun B9 σ10 B10 H10 e10 X10 ⟨c10, o10, q10⟩ => ?_)
      · have hj : j < n := by omega
        have i1 : n * a + j < n * n := ix_lt ha hj
        have i2 : n * j + k < n * n := ix_lt hj hk
        refine Own.augI (m := n * a + j) (ev_val rfl) (ev_add (ev_mul (ev_var rfl) (ev_var rfl) (sm a (by omega))) (ev_var rfl)) (by rw [← Int.natCast_mul, ← Int.natCast_add]) (vec_at i1) (ev_cell (ev_var rfl) (ev_var rfl) (ev_var rfl) rfl rfl hj hk) e10 (X10.trans x11) nps (q10.ext x11) (by rw [vec_len]; omega) fun H12 B12 X12 kp12 q12 e12 => ?_
        rw [vec_set] at q12
        refine Own.augI (m := n * j + k) (ev_val rfl) (ev_add (ev_mul (ev_var rfl) (ev_var rfl) (sm j (by omega))) (ev_var rfl)) (by rw [← Int.natCast_mul, ← Int.natCast_add]) (vec_at i2) (ev_cell (ev_var rfl) (ev_var rfl) (ev_var rfl) rfl rfl ha hj) e12 X12 nps q12 (by rw [vec_len]; omega) fun H13 B13 X13 kp13 q13 e13 => ?_
        rw [vec_set] at q13
        refine ⟨B13, e13.le ?_, X13, (b10.trans x11.bb).trans (kp12.bb.trans kp13.bb), (c10.trans x11.bb).trans (kp12.bb.trans kp13.bb), kp13.own p _ (fun z => ne z.symm) (kp12.own p _ (fun z => ne z.symm) (o10.ext x11)), ?_⟩
        · exact ⟨rfl, rfl, rfl, rfl, rfl, rfl, rfl, trivial, trivial, trivial⟩
        · have es : smj (j + 1) = sumsStep n one other a k (smj j) j := by
            show (List.range (j + 1)).foldl _ _ = _
            rw [List.range_succ, List.foldl_append]
            rfl
          rw [es]
          exact q13
      · dsimp only at e10 ⊢
        obtain ⟨B11, e11, X11, b11, kp⟩ := q10.show_ e10 X10 nps (i := 6) rfl
        have o11 := kp p _ (fun z => ne z.symm) o10
        have ez : vec (n * n) (smj (n : Int).toNat) = vec (n * n) (sumsRow n one other a k) := rfl
        refine o11.app rfl (ev_var rfl) e11 X11 np (by
          show ((rw1 a ++ (List.range k).map fun k => sumsRow n one other a k).map (rowD true (n * n))).length < 100000
          rw [List.length_map, List.length_append, List.length_map, List.length_range]
          have : (rw1 a).length = a * n := flat_len
          have : a * n ≤ n * n := Nat.mul_le_mul_right _ (by omega)
          omega) fun H13 B13 X13 kp2 o13 e13 => ?_
        refine ⟨B13, e13.le ?_, X13, (((b6.trans x7.bb).trans x8.bb).trans (c10.trans b11)).trans kp2.bb, (((c6.trans x7.bb).trans x8.bb).trans (c10.trans b11)).trans kp2.bb, ?_⟩
        · exact ⟨rfl, rfl, rfl, rfl, rfl, trivial, trivial, trivial, trivial, trivial⟩
        · have ef : dd (rw2 a (k + 1)) = dd (rw2 a k) ++ [rowD true (n * n) (sumsRow n one other a k)] := by
            show (rw1 a ++ (List.range (k + 1)).map fun k => sumsRow n one other a k).map (rowD true (n * n)) = (rw1 a ++ (List.range k).map fun k => sumsRow n one other a k).map (rowD true (n * n)) ++ _
            rw [List.range_succ, List.map_append, List.map_append, List.map_append, List.map_append, List.append_assoc]
            rfl
          rw [ef]
          exact o13
    · dsimp only at e6 ⊢
      refine ⟨B6, e6.le ?_, X6, c6, ?_⟩
      · exact ⟨rfl, rfl, rfl, rfl, trivial, trivial, trivial, trivial, trivial, trivial⟩
      · have ef : rw1 (a + 1) = rw2 a n := by
          show (List.range (a + 1)).flatMap _ = _
          rw [List.range_succ, List.flatMap_append]
          simp [rw2, rw1]
        rw [ef]
        exact o6
  · dsimp only at e3 ⊢
    obtain ⟨b, ys, h, r⟩ := o3
    exact s_retOwn (xs := ys) rfl e3 (k p ys H3 B3 hp X3 h b r)
end
end At
-- V7
namespace At
open PySem PySem.Spec PyProof.Rows L2 Wk La
abbrev st_raised : Stmt := topS 40
abbrev N_raised : List Str := ["value", "many", "found", "turn"]
theorem sc_raised : FnScope N_raised ["value", "many"] (defScope st_raised) := ⟨rfl, rfl, rfl, by decide +kernel, rfl, by decide +kernel, by decide +kernel⟩
abbrev st_summed : Stmt := topS 37
abbrev N_summed : List Str := ["tables", "numbers", "size", "at", "k", "by", "table"]
theorem sc_summed : FnScope N_summed ["tables", "numbers"] (defScope st_summed) := ⟨rfl, rfl, rfl, by decide +kernel, rfl, by decide +kernel, by decide +kernel⟩
theorem zip_take {Ts Os : List Tb} {i : Nat} (h : i < Ts.length) (h2 : i < Os.length) : (Ts.zip Os).take (i + 1) = (Ts.zip Os).take i ++ [(tbl Ts i, tbl Os i)] := by
  have hi : i < (Ts.zip Os).length := by rw [List.length_zip]; omega
  rw [List.take_succ, List.getElem?_eq_getElem hi, List.getElem_zip]
  unfold tbl
  rw [List.getD_eq_getElem?_getD, List.getElem?_eq_getElem h, List.getD_eq_getElem?_getD, List.getElem?_eq_getElem h2]
  rfl
theorem sumsFor_len {n : Nat} {one other : Tb} : (sumsFor n one other).length = n * n := flat_len
theorem cond_len {n : Nat} : ∀ {L : List (Tb × Tb)}, (L.flatMap fun p => sumsFor n p.1 p.2).length = L.length * (n * n)
  | [] => by simp
  | a :: L => by rw [List.flatMap_cons, List.length_append, sumsFor_len, cond_len, List.length_cons, Nat.succ_mul]; omega
theorem nn9' {n : Nat} (hn : n ≤ 3) : n * n ≤ 9 := by
  have : n = 0 ∨ n = 1 ∨ n = 2 ∨ n = 3 := by omega
  rcases this with rfl | rfl | rfl | rfl <;> decide
theorem small_mul {a b : Nat} (ha : a ≤ 1000) (hb : b ≤ 1000) : CMulW (a : Int) (b : Int) := mul9 (Nat.lt_of_lt_of_le (show ((a : Int)).natAbs < 2 ^ 10 by omega) (Nat.pow_le_pow_right (by decide) (by omega))) (Nat.lt_of_lt_of_le (show ((b : Int)).natAbs < 2 ^ 10 by omega) (Nat.pow_le_pow_right (by decide) (by omega)))
theorem row_map {α : Type} {R : List Vec} {f : Vec → α} : (List.range R.length).map (fun i => f (La.row R i)) = R.map f := by
  apply List.ext_getElem?
  intro i
  by_cases hi : i < R.length
  · rw [range_at hi, row_at hi]
  · rw [List.getElem?_eq_none (by simpa using hi), List.getElem?_eq_none (by simpa using hi)]
theorem tab_map {α : Type} {R : List Tb} {f : Tb → α} : (List.range R.length).map (fun i => f (tbl R i)) = R.map f := by
  apply List.ext_getElem?
  intro i
  by_cases hi : i < R.length
  · rw [range_at hi, tab_at hi]
  · rw [List.getElem?_eq_none (by simpa using hi), List.getElem?_eq_none (by simpa using hi)]
section
variable {P : Program} {w : World} {K : PySem.W.Frag} {mg : Str → Option Value} {base : Heap} (bi : Bi mg)
theorem ev_size {G : Gam} {te : TE} {n : Nat} {kd : Bool} {Ts : List Tb} (h : ED K te G (tabsD kd n Ts)) (h0 : 0 < Ts.length) : ED K (tCB (rLenSq K) (tCons (tOp (rIx K) te (tC (.int 0))) tNil)) G (.int (n : Int)) :=
  (ev_cb (ea_cons (ev_ix (k := kd) (n := 0) h ev_int rfl (tab_at h0)) ea_nil) (cv_len (k := false))).cast (by rw [List.length_map, List.length_range])
abbrev spChangesBetween (K : PySem.W.Frag) : Sp := spD K (fun a : TsA => [tabsD false a.n a.Ts, tabsD false a.n a.Os]) (fun a => a.n ≤ 3 ∧ 0 < a.Ts.length ∧ a.Ts.length ≤ 3 ∧ a.Ts.length = a.Os.length ∧ NullFine (a.n * a.n) (condRows a.n a.Ts a.Os)) fun a => tabsD true a.n (chgs a.n a.Ts a.Os)
include bi in
theorem ok_changes_between {f : Addr} {fd : FuncData} (F : L2.Fun K "changes_between" "changes_between" st_changes_between f fd) (c_sums_for : Wk.Cal P w K mg base 1 "sums_for" (spSumsFor K)) (c_nulls : Wk.Cal P w K mg base 7 "nulls" (spNulls K)) (c_folded : Wk.Cal P w K mg base 1 "folded" (spFolded K)) : FnOk P w K mg base CX0 8 f fd ["tables", "others"] (spChangesBetween K) := by
  refine okD F sc_changes_between (fun _ => rfl) (by decide) fun ⟨n, Ts, Os⟩ cdv A outer s H σ Q E B hr ⟨hn, h0, h3, hl, hf⟩ eb e k => ⟨_, (pss_cons (ps_asg (pe_tup (pa_cons (pe_callB (r := rLenSq K) call_len_seq (by rfl) bi.len (by decide +kernel) (pa_cons (pe_ix (r := rIx K) ix_seq (pv 0) pe_int (fun _ _ => rfl)) pa_nil)) (pa_cons (pe_lst pa_nil) pa_nil))) (pg_tup (by rfl) (pgs_cons (pg_name (i := 2) sc_changes_between.nd rfl (by first | exact Or.inl rfl | exact Or.inr rfl)) (pgs_cons (pg_name (i := 3) sc_changes_between.nd rfl (by first | exact Or.inl rfl | exact Or.inr rfl)) pgs_nil))))
      (pss_cons (ps_for PassesOwn.never (by rfl) (pi_zipB (by rfl) bi.zip (pa_cons (pv 0) (pa_cons (pv 1) pa_nil))) (pg_tup (by rfl) (pgs_cons (pg_name (i := 4) sc_changes_between.nd rfl (by first | exact Or.inl rfl | exact Or.inr rfl)) (pgs_cons (pg_name (i := 5) sc_changes_between.nd rfl (by first | exact Or.inl rfl | exact Or.inr rfl)) pgs_nil))) (pss_one (ps_expr (pe_bm PySem.F.plainAttrs_list PySem.F.slot_list_extend PySem.F.type_list_extend mt_extend (pv 3) (pa_cons (pe_cal c_sums_for hr (by decide) (by rfl) (pa_cons (pv 2) (pa_cons (pv 4) (pa_cons (pv 5) pa_nil)))) pa_nil)))))
      (pss_one (ps_ret (pe_lc (own := [("row", 6)]) (wi := iSq K _) (g := gName 6) (by rfl) sc_changes_between.nd (pi_sq (pe_cal c_nulls hr (by decide) (by rfl) (pa_cons (pv 3) (pa_cons (pe_op op_mulW (pv 2) (pv 2)) pa_nil)))) (blkOk_by (N := N_changes_between) (sc := (defScope st_changes_between)) (by decide +kernel)) (fun _ _ _ _ _ => (pg_name (i := 6) sc_changes_between.nd rfl (by first | exact Or.inl rfl | exact Or.inr rfl))) (fun _ _ _ _ _ => pts_nil) (fun _ _ _ _ _ => (pe_cal c_folded hr (by decide) (by rfl) (pa_cons (pv 6) (pa_cons (pv 2) pa_nil))))))))), ?_⟩
  dsimp only at hn h0 h3 hl hf e k
  have n9 := nn9' hn
  refine s_tupN (ev_size (ev_var rfl) h0) (en_lst ea_nil (by simp)) e eb fun p xs σ1 H1 B1 hp x1 h1 b1 r1 e1 => ?_
  let pr : Nat → List Vec := fun i => ((Ts.zip Os).take i).flatMap fun p => sumsFor n p.1 p.2
  have lz : ∀ i, (pr i).length ≤ i * 9 := fun i => by
    show (((Ts.zip Os).take i).flatMap fun p => sumsFor n p.1 p.2).length ≤ _
    rw [cond_len, List.length_take]
    exact Nat.mul_le_mul (by omega) n9
  refine s_for (n := min (Ts.map (tabD n)).length (Os.map (tabD n)).length) (B0 := B) (H0 := H) (Gi := fun _ => [.dat (tabsD false n Ts), .dat (tabsD false n Os), .dat (.int (n : Int)), .val (.ref p), .no, .no, .no]) (Φ := fun _ i B' H' => Own K p ((pr i).map (rowD true (n * n))) B' H') (w_zip (k1 := false) (k2 := false) (it1 := fun i => tabD n (tbl Ts i)) (it2 := fun i => tabD n (tbl Os i)) (ea_cons (ev_var rfl) (ea_cons (ev_var rfl) ea_nil)) (fun i hi => tab_in hi) fun i hi => tab_in hi) e1 x1 (fun B2 H2 x2 => ⟨⟨rfl, rfl, rfl, rfl, trivial, trivial, trivial, trivial⟩, (Own.to h1 b1 r1).ext x2⟩) (fun B2 i σ3 B3 H3 H4 hi X3 b3 o3 x4 e3 => ?_) (fun B2 σ3 B3 H3 e3 X3 o3 => ?_)
  · rw [List.length_map, List.length_map] at hi
    refine (o3.ext x4).extend rfl (en_call (ea_cons (ev_var rfl) (ea_cons (ev_var rfl) (ea_cons (ev_var rfl) ea_nil))) (spN_v (⟨n, tbl Ts i, tbl Os i⟩ : SuA) hn)) e3 (X3.trans x4) hp (by
      rw [List.length_map, List.length_map, sumsFor_len]
      have := lz i
      dsimp only
      omega) fun H5 B5 X5 kp o5 e5 => ?_
    refine ⟨B5, e5.le ?_, X5, (b3.trans x4.bb).trans kp.bb, ?_⟩
    · exact ⟨rfl, rfl, rfl, rfl, trivial, trivial, trivial, trivial⟩
    · have ef : pr (i + 1) = pr i ++ sumsFor n (tbl Ts i) (tbl Os i) := by
        show (((Ts.zip Os).take (i + 1)).flatMap fun p => sumsFor n p.1 p.2) = _
        rw [zip_take (by omega) (by omega), List.flatMap_append]
        simp [pr]
      rw [ef, List.map_append]
      exact o5
  · dsimp only at e3 ⊢
    rw [List.length_map, List.length_map] at o3
    have ef : pr (min Ts.length Os.length) = condRows n Ts Os := by
      show (((Ts.zip Os).take (min Ts.length Os.length)).flatMap fun p => sumsFor n p.1 p.2) = _
      rw [List.take_of_length_le (by rw [List.length_zip]; omega)]
      rfl
    rw [ef] at o3
    have l27 := lz (min Ts.length Os.length)
    rw [ef] at l27
    obtain ⟨B4, e4, X4, b4, kp⟩ := o3.show_ e3 X3 hp (i := 3) rfl
    have nl : (nulls (n * n) (condRows n Ts Os)).length ≤ 9 := Nat.le_trans (reduced_ok (w := n * n)).rref.leads_lt n9
    refine s_ret ((en_lc (p := fun _ => true) (f := fun i => tabD n (tabOf n (La.row (nulls (n * n) (condRows n Ts Os)) i))) (w_sq (k := true) (item := fun i => rowD false (n * n) (La.row (nulls (n * n) (condRows n Ts Os)) i)) ((ev_call (ea_cons (ev_var rfl) (ea_cons (ev_mul (ev_var rfl) (ev_var rfl) (small_mul (by omega) (by omega))) ea_nil)) (spD_v (⟨true, true, n * n, condRows n Ts Os⟩ : NuA) ⟨n9, hf, by dsimp only; omega⟩))) fun i hi => row_in hi) (by rw [List.length_map]; omega) (by decide) (fun _ _ => et_yes) (fun i hi _ => ev_call (ea_cons (ev_var rfl) (ea_cons (ev_var rfl) ea_nil)) (spD_v (⟨false, n, La.row (nulls (n * n) (condRows n Ts Os)) i⟩ : FoA) hn))).dat.cast ?_) e4 X4.le fun u H5 B5 x5 r5 => k u H5 B5 (X4.trans x5) r5
    rw [picked_all, List.length_map, row_map (f := fun v => tabD n (tabOf n v))]
    show PyData.list _ = PyData.list (((nulls (n * n) (condRows n Ts Os)).map (tabOf n)).map (tabD n))
    rw [List.map_map]
    rfl
end
end At
-- V8
namespace At
open PySem PySem.Spec PyProof.Rows L2 Wk La
theorem sum_range {m : Nat} {f : Nat → Int} : ((List.range m).map f).sum = sumN m f := by
  induction m with
  | zero => rfl
  | succ m ih => rw [List.range_succ, List.map_append, List.sum_append, ih]; simp [sumN]
structure SmA where
  n : Nat
  F : List Tb
  x : Nat → Int
section
variable {P : Program} {w : World} {K : PySem.W.Frag} {mg : Str → Option Value} {base : Heap} (bi : Bi mg)
abbrev spRaised (K : PySem.W.Frag) : Sp := spD K (fun a : Int × Nat => [.int a.1, .int (a.2 : Int)]) (fun a => a.1.natAbs ≤ 9 ∧ a.2 ≤ 9) fun a => .int (a.1 ^ a.2)
include bi in
theorem ok_raised {f : Addr} {fd : FuncData} (F : L2.Fun K "raised" "raised" st_raised f fd) : FnOk P w K mg base CX0 1 f fd ["value", "many"] (spRaised K) := by
  refine okD F sc_raised (fun _ => rfl) (by decide) fun ⟨v, m⟩ cdv A outer s H σ Q E B hr ⟨hv, hm⟩ eb e k => ⟨_, (pss_cons (ps_set (i := 2) sc_raised.nd rfl (by first | exact Or.inl rfl | exact Or.inr rfl) pe_int)
      (pss_cons (ps_for PassesOwn.never (by rfl) (pi_range1 (by rfl) bi.range (pa_cons (pv 1) pa_nil)) (pg_name (i := 3) sc_raised.nd rfl (by first | exact Or.inl rfl | exact Or.inr rfl)) (pss_one (ps_aug (i := 2) sc_raised.nd rfl (by first | exact Or.inl rfl | exact Or.inr rfl) (pv 0) ip_mulW)))
      (pss_one (ps_ret (pv 2))))), ?_⟩
  dsimp only at hv hm e k
  refine s_asg ev_int e eb fun σ1 H1 B1 x1 e1 => ?_
  refine s_for (n := (m : Int).toNat) (B0 := B) (H0 := H) (Gi := fun i => [.dat (.int v), .dat (.int (m : Int)), .dat (.int (v ^ i)), .no]) (Φ := fun _ _ _ _ => True) (w_rng1 (ea_cons (ev_var rfl) ea_nil) ⟨by omega, by omega⟩) e1 x1 (fun B1 H1 x1 => ⟨⟨rfl, rfl, by show PyData.int _ = PyData.int _; rw [Int.pow_zero], trivial, trivial⟩, trivial⟩) (fun B2 i σ3 B3 H3 H4 hi X3 b3 _ x4 e3 => ?_) (fun B2 σ3 B3 H3 e3 X3 _ => ?_)
  · have hb : (v ^ i).natAbs < 2 ^ 9000 := by
      rw [Int.natAbs_pow]
      refine Nat.lt_of_le_of_lt (Nat.pow_le_pow_left hv i) (Nat.lt_of_le_of_lt (Nat.pow_le_pow_right (n := 9) (by decide) (show i ≤ 9 by omega)) (Nat.lt_of_lt_of_le (show 9 ^ 9 < 2 ^ 30 by decide) (Nat.pow_le_pow_right (by decide) (by omega))))
    refine s_augC rfl (ev_var rfl) (mul9 hb (Nat.lt_of_lt_of_le (show v.natAbs < 2 ^ 4 by omega) (Nat.pow_le_pow_right (by decide) (by omega)))) e3 x4.le fun σ5 H5 B5 x5 e5 => ?_
    refine ⟨B5, e5.le ?_, (X3.trans x4).trans x5, b3.trans (x4.bb.trans x5.bb), trivial⟩
    exact ⟨rfl, rfl, by show PyData.int _ = PyData.int _; rw [Int.pow_succ], trivial, trivial⟩
  · dsimp only at e3 ⊢
    exact s_ret (ev_var rfl) e3 X3.le fun u H5 B5 x5 r5 => k u H5 B5 (X3.trans x5) r5
def Fine (n : Nat) (F : List Tb) (x : Nat → Int) : Prop := n ≤ 3 ∧ 0 < F.length ∧ F.length ≤ 9 ∧ ∀ t, t < F.length → (x t).natAbs < 2 ^ 9000 ∧ Cells n (fun c => c.natAbs < 2 ^ 9000) (tbl F t)
abbrev spSummed (K : PySem.W.Frag) : Sp := spD K (fun a : SmA => [tabsD true a.n a.F, .list (vec a.F.length a.x)]) (fun a => Fine a.n a.F a.x) fun a => tabD a.n (summedT a.F a.x)
include bi in
theorem ok_summed {f : Addr} {fd : FuncData} (F : L2.Fun K "summed" "summed" st_summed f fd) : FnOk P w K mg base CX0 1 f fd ["tables", "numbers"] (spSummed K) := by
  refine okD F sc_summed (fun _ => rfl) (by decide) fun ⟨n, Fs, x⟩ cdv A outer s H σ Q E B hr ⟨hn, h0, h9, hx⟩ eb e k => ⟨_, (pss_cons (ps_set (i := 2) sc_summed.nd rfl (by first | exact Or.inl rfl | exact Or.inr rfl) (pe_callB (r := rLenSq K) call_len_seq (by rfl) bi.len (by decide +kernel) (pa_cons (pe_ix (r := rIx K) ix_seq (pv 0) pe_int (fun _ _ => rfl)) pa_nil)))
      (pss_one (ps_ret (pe_callTy (r := rTupOf K) call_tuple_of (by rfl) bi.tuple (by decide +kernel) (pa_cons (pe_lc (own := [("at", 3)]) (wi := _) (g := gName 3) (by rfl) sc_summed.nd (pi_range1 (by rfl) bi.range (pa_cons (pv 2) pa_nil)) (blkOk_by (N := N_summed) (sc := (defScope st_summed)) (by decide +kernel)) (fun _ _ _ _ _ => (pg_name (i := 3) sc_summed.nd rfl (by first | exact Or.inl rfl | exact Or.inr rfl))) (fun _ _ _ _ _ => pts_nil) (fun _ _ _ _ _ => (pe_callTy (r := rTupOf K) call_tuple_of (by rfl) bi.tuple (by decide +kernel) (pa_cons (pe_lc (own := [("k", 4)]) (wi := _) (g := gName 4) (by rfl) sc_summed.nd (pi_range1 (by rfl) bi.range (pa_cons (pv 2) pa_nil)) (blkOk_by (N := N_summed) (sc := (relS _ (defScope st_summed))) (by decide +kernel)) (fun _ _ _ _ _ => (pg_name (i := 4) sc_summed.nd rfl (by first | exact Or.inl rfl | exact Or.inr rfl))) (fun _ _ _ _ _ => pts_nil) (fun _ _ _ _ _ => (pe_callB (r := rSum K) (cr_sum (by rfl)) (by rfl) bi.sum (by decide +kernel) (pa_cons (pe_lc (own := [("by", 5), ("table", 6)]) (wi := iZipB K _) (g := gPair K 5 6) (by rfl) sc_summed.nd (pi_zipB (by rfl) bi.zip (pa_cons (pv 1) (pa_cons (pv 0) pa_nil))) (blkOk_by (N := N_summed) (sc := (relS _ (relS _ (defScope st_summed)))) (by decide +kernel)) (fun _ _ _ _ _ => (pg_tup (by rfl) (pgs_cons (pg_name (i := 5) sc_summed.nd rfl (by first | exact Or.inl rfl | exact Or.inr rfl)) (pgs_cons (pg_name (i := 6) sc_summed.nd rfl (by first | exact Or.inl rfl | exact Or.inr rfl)) pgs_nil)))) (fun _ _ _ _ _ => pts_nil) (fun _ _ _ _ _ => (pe_op op_mulW (pv 5) (pe_ix (r := rIx K) ix_seq (pe_ix (r := rIx K) ix_seq (pv 6) (pv 3) (fun _ _ => rfl)) (pv 4) (fun _ _ => rfl))))) pa_nil)))) pa_nil)))) pa_nil))))), ?_⟩
  dsimp only at hn h0 h9 hx e k
  refine s_asg (ev_size (ev_var rfl) h0) e eb fun σ1 H1 B1 x1 e1 => ?_
  refine s_ret (ev_cb (ea_cons (en_lc (p := fun _ => true) (f := fun i => rowD false n (summedT Fs x i)) (w_rng1 (ea_cons (ev_var rfl) ea_nil) ⟨by omega, by omega⟩) (by omega) (by decide) (fun _ _ => et_yes) (fun i hi _ => ?_)).dat ea_nil) (cv_tuple (k := true))) e1 x1.le fun u H5 B5 x5 r5 => k u H5 B5 (x1.trans x5) ?_
  · refine (ev_cb (ea_cons (en_lc (p := fun _ => true) (f := fun j => .int (summedT Fs x i j)) (w_rng1 (ea_cons (ev_var rfl) ea_nil) ⟨by omega, by omega⟩) (by omega) (by decide) (fun _ _ => et_yes) (fun j hj _ => ?_)).dat ea_nil) (cv_tuple (k := true))).cast ?_
    · refine (ev_cb (ea_cons ((en_lc (p := fun _ => true) (f := fun t => .int (x t * tbl Fs t i j)) (w_zip (k1 := true) (k2 := true) (it1 := fun t => .int (x t)) (it2 := fun t => tabD n (tbl Fs t)) (ea_cons (ev_var rfl) (ea_cons (ev_var rfl) ea_nil)) (fun i hi => vec_in hi) fun i hi => tab_in hi) (by rw [vec_len, List.length_map]; omega) (by decide) (fun _ _ => et_yes) (fun t ht _ => ?_)).dat.cast (b := .list (((List.range Fs.length).map fun t => x t * tbl Fs t i j).map .int)) ?_) ea_nil) cv_sum).cast ?_
      · rw [vec_len, List.length_map] at ht
        have q := hx t (by omega)
        exact ev_mul (ev_var rfl) (ev_cell (ev_var rfl) (ev_var rfl) (ev_var rfl) rfl rfl (by omega) (by omega)) (mul9 q.1 (q.2 i j (by omega) (by omega)))
      · rw [vec_len, List.length_map, Nat.min_self, picked_all, List.map_map]
        rfl
      · rw [sum_range]
        rfl
    · rw [picked_all]
      rfl
  · rw [picked_all] at r5
    exact r5
end
end At
-- V9
namespace At
open PySem PySem.Spec PyProof.Rows L2 Wk La
abbrev st_is_integer : Stmt := topS 3
abbrev N_is_integer : List Str := ["value"]
theorem sc_is_integer : FnScope N_is_integer ["value"] (defScope st_is_integer) := ⟨rfl, rfl, rfl, by decide +kernel, rfl, by decide +kernel, by decide +kernel⟩
abbrev st_are_integers : Stmt := topS 4
abbrev N_are_integers : List Str := ["value", "many", "part"]
theorem sc_are_integers : FnScope N_are_integers ["value", "many"] (defScope st_are_integers) := ⟨rfl, rfl, rfl, by decide +kernel, rfl, by decide +kernel, by decide +kernel⟩
abbrev st_is_table : Stmt := topS 26
abbrev N_is_table : List Str := ["value", "row", "part"]
theorem sc_is_table : FnScope N_is_table ["value"] (defScope st_is_table) := ⟨rfl, rfl, rfl, by decide +kernel, rfl, by decide +kernel, by decide +kernel⟩
abbrev st_wrong_table : Stmt := topS 27
abbrev N_wrong_table : List Str := ["value", "at", "table"]
theorem sc_wrong_table : FnScope N_wrong_table ["value"] (defScope st_wrong_table) := ⟨rfl, rfl, rfl, by decide +kernel, rfl, by decide +kernel, by decide +kernel⟩
structure TbA where
  n : Nat
  T : Tb
structure TlA where
  n : Nat
  Ts : List Tb
def Good (n : Nat) (T : Tb) : Prop := 1 ≤ n ∧ n ≤ 3 ∧ Cells n (fun c => c.natAbs ≤ 1000000) T
theorem all_true {n : Nat} : ((List.range n).map fun _ => true).all id = true := by simp
section
variable {K : PySem.W.Frag} {G : Gam} {te : TE} {x : Int} {ds : List D}
theorem ki_ii : kitB "int" "int" = some true := by decide +kernel
theorem ki_ib : kitB "int" "bool" = some false := by decide +kernel
theorem ki_tt : kitB "tuple" "tuple" = some true := by decide +kernel
theorem ev_isiI (h : ED K te G (.int x)) : ED K (tCB (rIsi K) (tCons te (tCons (tC (.ty "int")) tNil))) G (.bool true) := ev_isi h ki_ii
theorem ev_isiB (h : ED K te G (.int x)) : ED K (tCB (rIsi K) (tCons te (tCons (tC (.ty "bool")) tNil))) G (.bool false) := ev_isi h ki_ib
theorem ev_isiT (h : ED K te G (.tuple ds)) : ED K (tCB (rIsi K) (tCons te (tCons (tC (.ty "tuple")) tNil))) G (.bool true) := ev_isi h ki_tt
end
section
variable {P : Program} {w : World} {K : PySem.W.Frag} {mg : Str → Option Value} {base : Heap} (bi : Bi mg)
abbrev spIsInteger (K : PySem.W.Frag) : Sp := spD K (fun a : Int => [.int a]) (fun _ => True) fun _ => .bool true
include bi in
theorem ok_is_integer {f : Addr} {fd : FuncData} (F : L2.Fun K "is_integer" "is_integer" st_is_integer f fd) : FnOk P w K mg base CX0 1 f fd ["value"] (spIsInteger K) := by
  refine okD F sc_is_integer (fun _ => rfl) (by decide) fun a cdv A outer s H σ Q E B hr _ eb e k => ⟨_, (pss_one (ps_ret (pe_and (pe_callB (r := rIsi K) call_isi (by rfl) bi.isinstance (by decide +kernel) (pa_cons (pv 0) (pa_cons (pe_bltn (v := .ty "int") (u := .type "int") (by rfl) bi.int (by decide +kernel) rfl) pa_nil))) (pe_one (pe_not (pe_callB (r := rIsi K) call_isi (by rfl) bi.isinstance (by decide +kernel) (pa_cons (pv 0) (pa_cons (pe_bltn (v := .ty "bool") (u := .type "bool") (by rfl) bi.bool (by decide +kernel) rfl) pa_nil)))))))), ?_⟩
  exact s_ret ((ev_and (ev_isiI (ev_var rfl)) fun _ => ev_not (ev_isiB (ev_var rfl)))) e eb fun u H5 B5 x5 r5 => k u H5 B5 x5 r5
abbrev spAreIntegers (K : PySem.W.Frag) : Sp := spD K (fun a : RowA => [rowD false a.w a.v, .int (a.w : Int)]) (fun a => a.w ≤ 9) fun _ => .bool true
include bi in
theorem ok_are_integers {f : Addr} {fd : FuncData} (F : L2.Fun K "are_integers" "are_integers" st_are_integers f fd) (c_is_integer : Wk.Cal P w K mg base 1 "is_integer" (spIsInteger K)) : FnOk P w K mg base CX0 2 f fd ["value", "many"] (spAreIntegers K) := by
  refine okD F sc_are_integers (fun _ => rfl) (by decide) fun ⟨kd, n, v⟩ cdv A outer s H σ Q E B hr hw eb e k => ⟨_, (pss_one (ps_ret (pe_and (pe_callB (r := rIsi K) call_isi (by rfl) bi.isinstance (by decide +kernel) (pa_cons (pv 0) (pa_cons (pe_bltn (v := .ty "tuple") (u := .type "tuple") (by rfl) bi.tuple (by decide +kernel) rfl) pa_nil))) (pe_and (pe_cmpR (r := rEqD K) (op_eqD hr.units) (pe_callB (r := rLenSq K) call_len_seq (by rfl) bi.len (by decide +kernel) (pa_cons (pv 0) pa_nil)) (pv 1) (nomark _)) (pe_one (pe_callB (r := rAll K) (cr_all (by rfl)) (by rfl) bi.all (by decide +kernel) (pa_cons (pe_lc (own := [("part", 2)]) (wi := iSq K _) (g := gName 2) (by rfl) sc_are_integers.nd (pi_sq (pv 0)) (blkOk_by (N := N_are_integers) (sc := (defScope st_are_integers)) (by decide +kernel)) (fun _ _ _ _ _ => (pg_name (i := 2) sc_are_integers.nd rfl (by first | exact Or.inl rfl | exact Or.inr rfl))) (fun _ _ _ _ _ => pts_nil) (fun _ _ _ _ _ => (pe_cal c_is_integer hr (by decide) (by rfl) (pa_cons (pv 2) pa_nil)))) pa_nil))))))), ?_⟩
  dsimp only at hw e k
  refine s_ret ((ev_and (ev_isiT (ev_var rfl)) fun _ => ev_and (ev_eqI (ev_cb (ea_cons (ev_var rfl) ea_nil) (cv_len (k := false))) (ev_var rfl)) fun _ => ev_cb (ea_cons ((en_lc (p := fun _ => true) (f := fun _ => .bool true) (w_sq (k := false) (item := fun i => .int (v i)) (ev_var rfl) fun i hi => vec_in hi) (by rw [vec_len]; omega) (by decide) (fun _ _ => et_yes) (fun i hi _ => ev_call (ea_cons (ev_var rfl) ea_nil) (spD_v (v i) trivial))).dat.cast (b := .list (((List.range n).map fun _ => true).map .bool)) ?_) ea_nil) cv_all).cast ?_) e eb fun u H5 B5 x5 r5 => k u H5 B5 x5 r5
  · rw [vec_len, picked_all, List.map_map]
    rfl
  · rw [vec_len, all_true]
    simp
abbrev spIsTable (K : PySem.W.Frag) : Sp := spD K (fun a : TbA => [tabD a.n a.T]) (fun a => Good a.n a.T) fun _ => .bool true
include bi in
theorem ok_is_table {f : Addr} {fd : FuncData} (F : L2.Fun K "is_table" "is_table" st_is_table f fd) (c_are_integers : Wk.Cal P w K mg base 2 "are_integers" (spAreIntegers K)) (G4 : ∃ u, mg "MOST_SIZE" = some u ∧ L2.RelV (.int 4) u) (G6 : ∃ u, mg "MOST_NUMBER" = some u ∧ L2.RelV (.int 1000000) u) : FnOk P w K mg base CX0 3 f fd ["value"] (spIsTable K) := by
  obtain ⟨_, g_MOST_SIZE⟩ := G4
  obtain ⟨_, g_MOST_NUMBER⟩ := G6
  refine okD F sc_is_table (fun _ => rfl) (by decide) fun ⟨n, T⟩ cdv A outer s H σ Q E B hr ⟨h1, h3, hc⟩ eb e k => ⟨_, (pss_cons (ps_if ((pw_or (pt_not (pt_val (pe_callB (r := rIsi K) call_isi (by rfl) bi.isinstance (by decide +kernel) (pa_cons (pv 0) (pa_cons (pe_bltn (v := .ty "tuple") (u := .type "tuple") (by rfl) bi.tuple (by decide +kernel) rfl) pa_nil))))) (pw_or1 (pt_not (pt_chain op_le op_le pe_int (pe_callB (r := rLenSq K) call_len_seq (by rfl) bi.len (by decide +kernel) (pa_cons (pv 0) pa_nil)) (pe_glob (by rfl) g_MOST_SIZE.1 g_MOST_SIZE.2)))))).pt (pss_one (ps_ret pe_bl)) pss_nil)
      (pss_cons (ps_if (pt_not (pt_val (pe_callB (r := rAll K) (cr_all (by rfl)) (by rfl) bi.all (by decide +kernel) (pa_cons (pe_lc (own := [("row", 1)]) (wi := iSq K _) (g := gName 1) (by rfl) sc_is_table.nd (pi_sq (pv 0)) (blkOk_by (N := N_is_table) (sc := (defScope st_is_table)) (by decide +kernel)) (fun _ _ _ _ _ => (pg_name (i := 1) sc_is_table.nd rfl (by first | exact Or.inl rfl | exact Or.inr rfl))) (fun _ _ _ _ _ => pts_nil) (fun _ _ _ _ _ => (pe_cal c_are_integers hr (by decide) (by rfl) (pa_cons (pv 1) (pa_cons (pe_callB (r := rLenSq K) call_len_seq (by rfl) bi.len (by decide +kernel) (pa_cons (pv 0) pa_nil)) pa_nil))))) pa_nil)))) (pss_one (ps_ret pe_bl)) pss_nil)
      (pss_one (ps_ret (pe_callB (r := rAll K) (cr_all (by rfl)) (by rfl) bi.all (by decide +kernel) (pa_cons (pe_lc2 (own := [("row", 1), ("part", 2)]) (vs1 := [2]) (wi := iSq K _) (g := gName 1) (wi1 := iSq K _) (g1 := gName 2) (by rfl) sc_is_table.nd (pi_sq (pv 0)) (blkOk_by (N := N_is_table) (sc := (defScope st_is_table)) (by decide +kernel)) (by decide) (fun _ _ _ _ _ => (pg_name (i := 1) sc_is_table.nd rfl (by first | exact Or.inl rfl | exact Or.inr rfl))) (fun _ _ _ _ _ => pts_nil) (fun _ _ _ _ _ => (pi_sq (pv 1))) (fun _ _ _ _ _ => (pg_name (i := 2) sc_is_table.nd rfl (by first | exact Or.inl rfl | exact Or.inr rfl))) (fun _ _ _ _ _ => pts_nil) (fun _ _ _ _ _ => (pe_cmpR op_le (pe_callB call_abs (by rfl) bi.abs (by decide +kernel) (pa_cons (pv 2) pa_nil)) (pe_glob (by rfl) g_MOST_NUMBER.1 g_MOST_NUMBER.2) (nomark _)))) pa_nil)))))), ?_⟩
  dsimp only at h1 h3 hc e k
  have L : ((List.range n).map fun i => rowD false n (T i)).length = n := by rw [List.length_map, List.length_range]
  refine s_if (et_or (et_not (et_B (ev_isiT (ev_var rfl)))) fun _ => et_not (et_chain ev_int (ev_cb (ea_cons (ev_var rfl) ea_nil) (cv_len (k := false) (ds := (List.range n).map fun i => rowD false n (T i)))) ev_int (rv_I0 fun _ => .bl _) (rv_I0 fun _ => .bl _))) e eb (fun hb => ?_) fun hb H1 B1 x1 e1 => ?_
  · rw [L] at hb
    simp at hb
    omega
  · dsimp only [tNext]
    refine s_if (et_not (et_B (ev_cb (ea_cons ((en_lc (p := fun _ => true) (f := fun _ => .bool true) (w_sq (k := false) (item := fun i => rowD false n (T i)) (ev_var rfl) fun i hi => range_in hi) (by rw [L]; omega) (by decide) (fun _ _ => et_yes) (fun i hi _ => ev_call (ea_cons (ev_var rfl) (ea_cons ((ev_cb (ea_cons (ev_var rfl) ea_nil) (cv_len (k := false) (ds := (List.range n).map fun i => rowD false n (T i)))).cast (b := .int (n : Int)) (by rw [L])) ea_nil)) (spD_v (⟨false, n, T i⟩ : RowA) (by dsimp only; omega)))).dat.cast (b := .list (((List.range n).map fun _ => true).map .bool)) ?_) ea_nil) cv_all))) e1 x1.le (fun hb => ?_) fun hb H2 B2 x2 e2 => ?_
    · rw [L, picked_all, List.map_map]
      rfl
    · rw [all_true] at hb
      cases hb
    · dsimp only [tNext]
      have fl : ((List.range n).map fun i => rowD false n (T i)).length = n := L
      refine s_ret ((ev_cb (ea_cons ((en_lc2 (m := fun i => (vec n (T i)).length) (js1 := [2]) (up1 := fun i j G => G.set 2 (.dat (.int (T i j)))) (f := fun i j => .bool (decide (((T i j).natAbs : Int) ≤ 1000000))) (w_sq (k := false) (item := fun i => rowD false n (T i)) (ev_var rfl) fun i hi => range_in hi) (by decide) (by decide) (fun i hi => w_sq (k := false) (ds := vec n (T i)) (item := fun j => .int (T i j)) (ev_var rfl) fun j hj => vec_in hj) (fun _ _ => by rw [vec_len]; omega) (by rw [L]; omega) (fun i j hi hj => ev_le (ev_cb (ea_cons (ev_var rfl) ea_nil) cv_abs) ev_int)).dat.cast (b := .list (((List.range n).flatMap fun i => (List.range n).map fun j => decide (((T i j).natAbs : Int) ≤ 1000000)).map .bool)) ?_) ea_nil) cv_all).cast ?_) e2 x2.le fun u H5 B5 x5 r5 => k u H5 B5 ((x1.trans x2).trans x5) r5
      · rw [L, List.map_flatMap]
        congr 2
        funext i
        rw [vec_len, List.map_map]
        rfl
      · congr 1
        rw [List.all_eq_true]
        intro b hb
        obtain ⟨i, hi, hb⟩ := List.mem_flatMap.mp hb
        obtain ⟨j, hj, rfl⟩ := List.mem_map.mp hb
        have := hc i j (List.mem_range.mp hi) (List.mem_range.mp hj)
        dsimp only at this
        rw [id, decide_eq_true_eq]
        omega
abbrev spWrongTable (K : PySem.W.Frag) : Sp := spD K (fun a : TlA => [tabsD false a.n a.Ts]) (fun a => 0 < a.Ts.length ∧ a.Ts.length ≤ 3 ∧ ∀ t, t < a.Ts.length → Good a.n (tbl a.Ts t)) fun _ => .none
include bi in
theorem ok_wrong_table {f : Addr} {fd : FuncData} (F : L2.Fun K "wrong_table" "wrong_table" st_wrong_table f fd) (c_is_table : Wk.Cal P w K mg base 3 "is_table" (spIsTable K)) (G3 : ∃ u, mg "MOST_TABLES" = some u ∧ L2.RelV (.int 3) u) : FnOk P w K mg base CX0 4 f fd ["value"] (spWrongTable K) := by
  obtain ⟨_, g_MOST_TABLES⟩ := G3
  refine okD F sc_wrong_table (fun _ => rfl) (by decide) fun ⟨n, Ts⟩ cdv A outer s H σ Q E B hr ⟨h0, h3, hg⟩ eb e k => ⟨_, (pss_cons (ps_if ((pw_or (pt_not (pt_val (pe_callB (r := rIsi K) call_isi (by rfl) bi.isinstance (by decide +kernel) (pa_cons (pv 0) (pa_cons (pe_bltn (v := .ty "tuple") (u := .type "tuple") (by rfl) bi.tuple (by decide +kernel) rfl) pa_nil))))) (pw_or1 (pt_cmpR (r := rEqD K) (op_eqD hr.units) (pe_callB (r := rLenSq K) call_len_seq (by rfl) bi.len (by decide +kernel) (pa_cons (pv 0) pa_nil)) pe_int (nomark _))))).pt (pss_one (ps_ret (pe_un un_neg pe_int))) pss_nil)
      (pss_cons (ps_for PassesOwn.never (by rfl) (pi_enumB (by rfl) bi.enumerate (pa_cons (pv 0) pa_nil)) (pg_tup (by rfl) (pgs_cons (pg_name (i := 1) sc_wrong_table.nd rfl (by first | exact Or.inl rfl | exact Or.inr rfl)) (pgs_cons (pg_name (i := 2) sc_wrong_table.nd rfl (by first | exact Or.inl rfl | exact Or.inr rfl)) pgs_nil))) (pss_one (ps_if ((pw_or (pt_cmpR (r := rEqD K) (op_eqD hr.units) (pv 1) (pe_glob (by rfl) g_MOST_TABLES.1 g_MOST_TABLES.2) (nomark _)) (pw_or (pt_not (pt_val (pe_cal c_is_table hr (by decide) (by rfl) (pa_cons (pv 2) pa_nil)))) (pw_or1 (pt_cmpR (r := rNeD K) (op_neD hr.units) (pe_callB (r := rLenSq K) call_len_seq (by rfl) bi.len (by decide +kernel) (pa_cons (pv 2) pa_nil)) (pe_callB (r := rLenSq K) call_len_seq (by rfl) bi.len (by decide +kernel) (pa_cons (pe_ix (r := rIx K) ix_seq (pv 0) pe_int (fun _ _ => rfl)) pa_nil)) (nomark _)))))).pt (pss_one (ps_ret (pv 1))) pss_nil)))
      (pss_one (ps_ret pe_non)))), ?_⟩
  dsimp only at h0 h3 hg e k
  have L : (Ts.map (tabD n)).length = Ts.length := List.length_map ..
  refine s_if (et_or (et_not (et_B (ev_isiT (ev_var rfl)))) fun _ => et_test (ev_eqI (ev_cb (ea_cons (ev_var rfl) ea_nil) (cv_len (k := false) (ds := Ts.map (tabD n)))) ev_int)) e eb (fun hb => ?_) fun hb H1 B1 x1 e1 => ?_
  · rw [L] at hb
    have hb : ((Ts.length : Int) == 0) = true := hb
    have := eq_of_beq hb
    omega
  · dsimp only [tNext]
    refine s_for (n := (Ts.map (tabD n)).length) (B0 := B) (H0 := H) (Gi := fun _ => [.dat (tabsD false n Ts), .no, .no]) (Φ := fun _ _ _ _ => True) (w_enum (k := false) (item := fun i => tabD n (tbl Ts i)) (ea_cons (ev_var rfl) ea_nil) fun i hi => tab_in hi) e1 x1 (fun B2 H2 x2 => ⟨⟨rfl, trivial, trivial, trivial⟩, trivial⟩) (fun B2 i σ3 B3 H3 H4 hi X3 b3 _ x4 e3 => ?_) (fun B2 σ3 B3 H3 e3 X3 _ => ?_)
    · rw [L] at hi
      refine s_if (et_or (et_test (ev_eqI (ev_var rfl) ev_int)) fun _ => et_or (et_not (et_B (ev_call (ea_cons (ev_var rfl) ea_nil) (spD_v (⟨n, tbl Ts i⟩ : TbA) (hg i hi))))) fun _ => et_test (ev_neI ((ev_cb (ea_cons (ev_var rfl) ea_nil) (cv_len (k := false) (ds := (List.range n).map fun j => rowD false n (tbl Ts i j)))).cast (b := .int (n : Int)) (by rw [List.length_map, List.length_range])) (ev_size (ev_var rfl) h0))) e3 x4.le (fun hb => ?_) fun hb H5 B5 x5 e5 => ?_
      · simp at hb
        omega
      · dsimp only [tNext]
        exact ⟨B5, e5.le (by exact ⟨rfl, trivial, trivial, trivial⟩), (X3.trans x4).trans x5, b3.trans (x4.bb.trans x5.bb), trivial⟩
    · dsimp only at e3 ⊢
      exact s_ret ev_non e3 X3.le fun u H5 B5 x5 r5 => k u H5 B5 (X3.trans x5) r5
end
end At
-- V10
namespace At
open PySem PySem.Spec PyProof.Rows L2 Wk La
abbrev st_added : Stmt := topS 38
abbrev N_added : List Str := ["polynomial", "more", "tables", "at", "k", "sign", "names", "number", "index", "table", "key"]
theorem sc_added : FnScope N_added ["polynomial", "more", "tables", "at", "k", "sign"] (defScope st_added) := ⟨rfl, rfl, rfl, by decide +kernel, rfl, by decide +kernel, by decide +kernel⟩
abbrev polyO (P : Poly) : HO := .dT (encP V.int P)
theorem isort_map {l : List Nat} : ((isort l).map fun n : Nat => (n : Int)).Pairwise (· ≤ ·) := by
  rw [List.pairwise_map]
  exact isort_sorted.imp fun h => by omega
section
variable {K : PySem.W.Frag} {G : Gam} {ta : TA}
theorem en_sortI {l : List Nat} (h : EvA K ta G [.list ((l.map fun n : Nat => (n : Int)).map .int)]) : EvN K (tCB (rSortedI K) ta) G (((isort l).map fun n : Nat => (n : Int)).map .int) := fun σ B H e eb Q k => h σ B H e eb _ fun vs H1 B1 x1 r1 => by
  obtain ⟨v, rfl, rv⟩ := dps1 r1
  obtain ⟨p, xs, rfl, s, rx⟩ := dp_sq (k := true) rv
  rw [dps_ints rx] at s
  refine ⟨p, _, rfl, sqB_mono x1.le s, fun ns' q pm so hq => ?_⟩
  have e2 : ns' = (isort l).map fun n : Nat => (n : Int) := (pm.trans (isort_perm.symm.map _)).eq_of_pairwise (le := fun a b : Int => a ≤ b) (fun _ _ _ _ => Int.le_antisymm) so isort_map
  subst e2
  exact k q _ _ B1 (Evl.fresh_back x1.ex hq) (x1.trans (Ext.hide x1.le hq)) upd_same (Evl.fresh_back x1.le hq) (ints_dps _)
theorem poly_get {P : Poly} {k : List Nat} : (valV (encP V.int P) (encK k)).getD (.int 0) = .int (pget P k) := by
  rw [encP_get]
  unfold pget
  cases (P.find? fun kv => decide (kv.1 = k)) with
  | none => rfl
  | some kv => rfl
theorem poly_put {P : Poly} {k : List Nat} {c : Int} : putK (encP V.int P) (encK k) (.int c) = encP V.int (pput P k c) := encP_put
theorem poly_at {P : Poly} {n : Nat} {k : List Key} {v : V} (h : (encP V.int P)[n]? = some (k, v)) : ∃ kv, P[n]? = some kv ∧ k = encK kv.1 ∧ v = .int kv.2 := by
  unfold encP at h
  rw [List.getElem?_map] at h
  cases e : P[n]? with
  | none => rw [e] at h; cases h
  | some kv => rw [e] at h; cases h; exact ⟨kv, rfl, rfl, rfl⟩
end
def addIn (Ts : List Tb) (a k : Nat) (sg : Int) (kv : List Nat × Int) (p : Poly) (m : Nat) : Poly := (List.range m).foldl (fun p t => if tbl Ts t a k ≠ 0 then padd p (isort (kv.1 ++ [t])) (sg * kv.2 * tbl Ts t a k) else p) p
theorem addIn_succ {Ts : List Tb} {a k m : Nat} {sg : Int} {kv : List Nat × Int} {p : Poly} : addIn Ts a k sg kv p (m + 1) = if tbl Ts m a k ≠ 0 then padd (addIn Ts a k sg kv p m) (isort (kv.1 ++ [m])) (sg * kv.2 * tbl Ts m a k) else addIn Ts a k sg kv p m := by
  unfold addIn
  rw [List.range_succ, List.foldl_append]
  rfl
theorem addIn_len {Ts : List Tb} {a k : Nat} {sg : Int} {kv : List Nat × Int} {p : Poly} : ∀ m, (addIn Ts a k sg kv p m).length ≤ p.length + m
  | 0 => Nat.le_refl _
  | m + 1 => by
    rw [addIn_succ]
    have ih := addIn_len (Ts := Ts) (a := a) (k := k) (sg := sg) (kv := kv) (p := p) m
    split
    · have := len_padd (d := addIn Ts a k sg kv p m) (k := isort (kv.1 ++ [m])) (c := sg * kv.2 * tbl Ts m a k)
      omega
    · omega
theorem added_take {p M : Poly} {Ts : List Tb} {a k : Nat} {sg : Int} {n : Nat} {kv : List Nat × Int} (h : M[n]? = some kv) : addedM p (M.take (n + 1)) Ts a k sg = addIn Ts a k sg kv (addedM p (M.take n) Ts a k sg) Ts.length := by
  unfold addedM
  rw [List.take_succ, h, List.foldl_append]
  rfl
theorem added_len {p : Poly} {Ts : List Tb} {a k : Nat} {sg : Int} : ∀ {M : Poly}, (addedM p M Ts a k sg).length ≤ p.length + M.length * Ts.length := by
  intro M
  induction M generalizing p with
  | nil => show p.length ≤ _; simp
  | cons kv M ih =>
    have e : addedM p (kv :: M) Ts a k sg = addedM (addIn Ts a k sg kv p Ts.length) M Ts a k sg := rfl
    rw [e]
    have h1 := ih (p := addIn Ts a k sg kv p Ts.length)
    have h2 := addIn_len (Ts := Ts) (a := a) (k := k) (sg := sg) (kv := kv) (p := p) Ts.length
    rw [List.length_cons, Nat.succ_mul]
    omega
structure AdA where
  P : Poly
  M : Poly
  n : Nat
  Ts : List Tb
  a : Nat
  k : Nat
  sg : Int
structure AdOk (x : AdA) : Prop where
  n3 : x.n ≤ 3
  a : x.a < x.n
  k : x.k < x.n
  t9 : x.Ts.length ≤ 9
  sg : x.sg = 1 ∨ x.sg = -1
  len : x.P.length + x.M.length * 9 < 90000
  big : ∀ kv ∈ x.M, kv.2.natAbs < 2 ^ 9000
  short : ∀ kv ∈ x.M, kv.1.length ≤ 100
  cell : ∀ t, t < x.Ts.length → Cells x.n (fun c => c.natAbs < 2 ^ 9000) (tbl x.Ts t)
section
variable {P : Program} {w : World} {K : PySem.W.Frag} {mg : Str → Option Value} {base : Heap} (bi : Bi mg)
def spAdded (K : PySem.W.Frag) : Sp := fun vs H Q _ => ∃ (x : AdA) (p q : Addr) (vt : V) (B : Hp), vs = [.ref p, .ref q, vt, .int (x.a : Int), .int (x.k : Int), .int x.sg] ∧ Evl.Ex B H ∧ OwnO p (polyO x.P) B H ∧ OwnO q (polyO x.M) B H ∧ p ≠ q ∧ Dp K B vt (tabsD true x.n x.Ts) ∧ AdOk x ∧
  ∀ H' B', Ext B (hideH H [p, q]) B' H' → OwnO p (polyO (addedM x.P x.M x.Ts x.a x.k x.sg)) B' H' → OwnO q (polyO x.M) B' H' → Q .non H'
include bi in
theorem ok_added {f : Addr} {fd : FuncData} (F : L2.Fun K "added" "added" st_added f fd) : FnOk P w K mg base CX0 1 f fd ["polynomial", "more", "tables", "at", "k", "sign"] (spAdded K) := by
  refine F.ok sc_added (fun vs H Q E h => ?_) (fun cdv A outer s H vs Q E hr h => ⟨_, (pss_one (ps_lock (ps_for PassesOwn.never (by rfl) (pi_itemsT (pv 1)) (pg_tup (by rfl) (pgs_cons (pg_name (i := 6) sc_added.nd rfl (by first | exact Or.inl rfl | exact Or.inr rfl)) (pgs_cons (pg_name (i := 7) sc_added.nd rfl (by first | exact Or.inl rfl | exact Or.inr rfl)) pgs_nil))) (pss_one (ps_for PassesOwn.never (by rfl) (pi_enumB (by rfl) bi.enumerate (pa_cons (pv 2) pa_nil)) (pg_tup (by rfl) (pgs_cons (pg_name (i := 8) sc_added.nd rfl (by first | exact Or.inl rfl | exact Or.inr rfl)) (pgs_cons (pg_name (i := 9) sc_added.nd rfl (by first | exact Or.inl rfl | exact Or.inr rfl)) pgs_nil))) (pss_one (ps_if (pt_cmpR (r := rNeD K) (op_neD hr.units) (pe_ix (r := rIx K) ix_seq (pe_ix (r := rIx K) ix_seq (pv 9) (pv 3) (fun _ _ => rfl)) (pv 4) (fun _ _ => rfl)) pe_int (nomark _)) (pss_cons (ps_set (i := 10) sc_added.nd rfl (by first | exact Or.inl rfl | exact Or.inr rfl) (pe_callTy (r := rTupOf K) call_tuple_of (by rfl) bi.tuple (by decide +kernel) (pa_cons (pe_callB (r := rSortedI K) cr_sortedI (by rfl) bi.sorted (by decide +kernel) (pa_cons (pe_lst (StX.pa_star (pv 6) (pa_cons (pv 8) pa_nil))) pa_nil)) pa_nil)))
      (pss_one (ps_dput (hu_of hr) (pv 0) (pv 10) (pe_op op_add (pe_dget2 (hu_of hr) (pv 0) (pv 10) pe_int ⟨by rfl, by rfl, by rfl, by rfl⟩) (pe_op op_mulW (pe_op op_mulW (pv 5) (pv 7)) (pe_ix (r := rIx K) ix_seq (pe_ix (r := rIx K) ix_seq (pv 9) (pv 3) (fun _ _ => rfl)) (pv 4) (fun _ _ => rfl)))) (by rfl)))) pss_nil))))))), ?_⟩)
  · obtain ⟨x, p, q, vt, B, rfl, _⟩ := h
    rfl
  obtain ⟨⟨Pp, M, n, Ts, a, kk, sg⟩, p, q, vt, B, rfl, eb, op, oq, ne, rt, ⟨n3, ha, hk, t9, hsg, hlen, hbig, hshort, hcell⟩, k⟩ := h
  dsimp only at op oq rt n3 ha hk t9 hsg hlen hbig hshort hcell k ⊢
  have e0 := env_ents (N := N_added) (.cons (t := .val (.ref p)) rfl (.cons (t := .val (.ref q)) rfl (.cons (ok_dat rt) (.cons (ok_dat (.int (a : Int))) (.cons (ok_dat (.int (kk : Int))) (.cons (ok_dat (.int sg)) .nil)))))) (show 6 ≤ 11 by decide)
  have X0 : Ext B (hideH H [p, q]) B H := Ext.base eb fun z hz => by
    rcases List.mem_cons.mp hz with e | e
    · rw [e]; exact op.1
    · rw [List.mem_singleton.mp e]; exact oq.1
  have np : hideH H [p, q] p = none := hide_in (by simp)
  have nq : hideH H [p, q] q = none := hide_in (by simp)
  refine s_lock e0 X0 nq oq fun od X1 oq1 => ?_
  have op1 : OwnO p (polyO Pp) B (upd H q (.frz od (polyO M))) := op.keep ne
  generalize upd H q (.frz od (polyO M)) = H1 at X1 oq1 op1
  let G0 : Ent → Ent → Gam := fun u v => [.val (.ref p), .val (.ref q), .dat (tabsD true n Ts), .dat (.int (a : Int)), .dat (.int (kk : Int)), .dat (.int sg), u, v, .no, .no, .no]
  refine s_items (i := 1) (kvs := encP V.int M) (od := od) rfl e0 X1 oq1 (Gi := fun _ => G0 .no .no) (Φ := fun i B' H' => OwnO p (polyO (addedM Pp (M.take i) Ts a kk sg)) B' H') ⟨⟨rfl, rfl, rfl, rfl, rfl, rfl, trivial, trivial, trivial, trivial, trivial, trivial⟩, op1⟩ (fun i B H B' H' o x => o.ext trivial x) (fun i ky v nm σ2 B2 H2 hkv X2 b2 oq2 op2 hnm e2 => ?_) (fun σ2 B2 H2 e2 X2 b2 oq2 op2 => ?_)
  · obtain ⟨⟨names, number⟩, hM, rfl, rfl⟩ := poly_at hkv
    have mM : (names, number) ∈ M := List.mem_of_getElem? hM
    have iM : i < M.length := (List.getElem?_eq_some_iff.mp hM).1
    dsimp only at e2 hnm
    have e3 := (e2.re (i := 6) (v := .ref nm) (t := .tk (names.map fun n : Nat => (n : Int))) rfl ⟨nm, rfl, by rw [← encK_V]; exact hnm⟩).re (i := 7) (v := .int number) (t := .dat (.int number)) rfl (ok_dat (.int number))
    have P0 := addedM Pp (M.take i) Ts a kk sg
    refine s_for (n := (Ts.map (tabD n)).length) (B0 := B) (H0 := hideH H [p, q]) (Gi := fun _ => G0 (.tk (names.map fun n : Nat => (n : Int))) (.dat (.int number))) (Φ := fun _ t B' H' => Evl.Ex B2 B' ∧ OwnO q (.frz od (polyO M)) B' H' ∧ OwnO p (polyO (addIn Ts a kk sg (names, number) (addedM Pp (M.take i) Ts a kk sg) t)) B' H') (w_enum (k := true) (item := fun i => tabD n (tbl Ts i)) (ea_cons (ev_var rfl) ea_nil) fun i hi => tab_in hi) e3 X2 (fun B3 H3 x3 => ⟨⟨rfl, rfl, rfl, rfl, rfl, rfl, rfl, rfl, trivial, trivial, trivial, trivial⟩, x3.bb, oq2.ext trivial x3, op2.ext trivial x3⟩) (fun B3 t σ4 B4 H4 H5 ht X4 b4 ⟨c4, oq4, op4⟩ x5 e4 => ?_) (fun B3 σ4 B4 H4 e4 X4 ⟨c4, oq4, op4⟩ => ?_)
    · rw [List.length_map] at ht
      have cel : ∀ {G : Gam}, G[9]? = some (.dat (tabD n (tbl Ts t))) → G[3]? = some (.dat (.int (a : Int))) → G[4]? = some (.dat (.int (kk : Int))) → ED K (tOp (rIx K) (tOp (rIx K) (tVar 9) (tVar 3)) (tVar 4)) G (.int (tbl Ts t a kk)) := fun h1 h2 h3 => ev_cell (ev_var h1) (ev_var h2) (ev_var h3) rfl rfl ha hk
      refine s_if (et_test (ev_neI (cel rfl rfl rfl) ev_int)) e4 x5.le (fun hb H6 B6 x6 e6 => ?_) (fun hb H6 B6 x6 e6 => ?_)
      · have nz : tbl Ts t a kk ≠ 0 := by simpa using hb
        refine s_asg (ev_tupK (en_sortI (l := names ++ [t]) (ea_cons ((en_lst (ea_star (k := false) (ev_tkD rfl) (ea_cons (ev_var rfl) ea_nil)) (by
          rw [List.length_append, List.length_map, List.length_map]
          have := hshort _ mM
          dsimp only at this
          simp only [List.length_singleton]
          omega)).dat.cast (by rw [List.map_append, List.map_append]; rfl)) ea_nil))) e6 x6.le fun σ7 H7 B7 x7 e7 => ?_
        have x57 := (x5.trans x6).trans x7
        have op7 := op4.ext trivial x57
        have cb : (tbl Ts t a kk).natAbs < 2 ^ 9000 := hcell t ht a kk ha hk
        have nb : number.natAbs < 2 ^ 9000 := hbig _ mM
        have sb : (sg * number).natAbs < 2 ^ 9000 := by
          rcases hsg with z | z
          · rw [z, Int.one_mul]; exact nb
          · rw [z, Int.neg_mul, Int.one_mul, Int.natAbs_neg]; exact nb
        refine s_dadd (kvs' := encP V.int (padd (addIn Ts a kk sg (names, number) (addedM Pp (M.take i) Ts a kk sg) t) (isort (names ++ [t])) (sg * number * tbl Ts t a kk))) (k := encK (isort (names ++ [t]))) (encK_V _) rfl rfl (ev_mul (ev_mul (ev_var rfl) (ev_var rfl) (mul9 (Nat.lt_of_lt_of_le (show sg.natAbs < 2 ^ 1 by omega) (Nat.pow_le_pow_right (by decide) (by omega))) nb)) (cel rfl rfl rfl) (mul9 sb cb)) e7 (X4.trans x57) np op7 poly_get ?_ poly_put fun H8 B8 X8 b8 op8 kp8 e8 => ?_
        · rw [encP_len]
          have h1 := addIn_len (Ts := Ts) (a := a) (k := kk) (sg := sg) (kv := (names, number)) (p := addedM Pp (M.take i) Ts a kk sg) t
          have h2 := added_len (p := Pp) (Ts := Ts) (a := a) (k := kk) (sg := sg) (M := M.take i)
          rw [List.length_take] at h2
          have h3 : min i M.length * Ts.length ≤ M.length * 9 := Nat.mul_le_mul (by omega) t9
          omega
        · refine ⟨B8, e8.le ?_, X8, (b4.trans x57.bb).trans b8, (c4.trans x57.bb).trans b8, kp8 q _ (fun z => ne z.symm) trivial (oq4.ext trivial x57), ?_⟩
          · exact ⟨rfl, rfl, rfl, rfl, rfl, rfl, rfl, rfl, trivial, trivial, trivial, trivial⟩
          · rw [addIn_succ, if_pos nz]
            exact op8
      · have z : tbl Ts t a kk = 0 := by simpa using hb
        dsimp only [tNext]
        have x56 := x5.trans x6
        refine ⟨B6, e6.le ?_, X4.trans x56, b4.trans x56.bb, c4.trans x56.bb, oq4.ext trivial x56, ?_⟩
        · exact ⟨rfl, rfl, rfl, rfl, rfl, rfl, rfl, rfl, trivial, trivial, trivial, trivial⟩
        · rw [addIn_succ, if_neg (by simp [z])]
          exact op4.ext trivial x56
    · dsimp only at e4 ⊢
      rw [List.length_map] at op4
      refine ⟨B4, e4.le ?_, X4, b2.trans c4, oq4, ?_⟩
      · exact ⟨rfl, rfl, rfl, rfl, rfl, rfl, trivial, trivial, trivial, trivial, trivial, trivial⟩
      · rw [added_take hM]
        exact op4
  · rw [encP_len, List.take_length] at op2
    obtain ⟨X3, oq3⟩ := oq2.unlock X2 nq
    exact ⟨oq2.2, k _ B2 X3 (op2.keep ne) oq3⟩
end
end At
-- V11
namespace At
open PySem PySem.Spec PyProof.Rows L2 Wk La
abbrev st_put_into : Stmt := topS 41
abbrev N_put_into : List Str := ["polynomial", "index", "value", "found", "names", "number", "rest", "name"]
theorem sc_put_into : FnScope N_put_into ["polynomial", "index", "value"] (defScope st_put_into) := ⟨rfl, rfl, rfl, by decide +kernel, rfl, by decide +kernel, by decide +kernel⟩
def putN (P : Poly) (i : Nat) (v : Int) (n : Nat) : Poly := (P.take n).foldl (fun f kv => padd f (La.rest i kv.1) (kv.2 * v ^ exps i kv.1)) []
theorem putN_succ {P : Poly} {i n : Nat} {v : Int} {kv : List Nat × Int} (h : P[n]? = some kv) : putN P i v (n + 1) = padd (putN P i v n) (La.rest i kv.1) (kv.2 * v ^ exps i kv.1) := by
  unfold putN
  rw [List.take_succ, h, List.foldl_append]
  rfl
theorem putN_len {P : Poly} {i : Nat} {v : Int} : ∀ n, n ≤ P.length → (putN P i v n).length ≤ n
  | 0, _ => by unfold putN; simp
  | n + 1, h => by
    rw [putN_succ (kv := P[n]) (List.getElem?_eq_getElem (by omega))]
    have := putN_len (P := P) (i := i) (v := v) n (by omega)
    have := len_padd (d := putN P i v n) (k := La.rest i P[n].1) (c := P[n].2 * v ^ exps i P[n].1)
    omega
theorem encP_nd {P : Poly} (h : Nd P) : ((encP V.int P).map Prod.fst).Nodup := by
  unfold encP
  rw [List.map_map, List.nodup_iff_pairwise_ne, List.pairwise_map]
  unfold Nd at h
  rw [List.nodup_iff_pairwise_ne, List.pairwise_map] at h
  exact h.imp fun ne e => ne (encK_inj e)
def pickG : List Key × V → Bool := fun kv => match kv.2 with
  | .int c => !(c == 0)
  | _ => false
theorem encP_pick {P : Poly} : (encP V.int P).filter pickG = encP V.int (dropZ P) := by
  unfold encP dropZ
  rw [List.filter_map]
  congr 1
  apply List.filter_congr
  intro kv _
  show (!(kv.2 == 0)) = decide (kv.2 ≠ 0)
  by_cases e : kv.2 = 0
  · simp [e]
  · simp [e]
structure PutA where
  P : Poly
  i : Nat
  v : Nat
structure PutOk (x : PutA) : Prop where
  v : x.v ≤ 9
  len : x.P.length < 90000
  short : ∀ kv ∈ x.P, kv.1.length ≤ 9
  big : ∀ kv ∈ x.P, kv.2.natAbs < 2 ^ 9000
theorem pow_small {v e : Nat} (hv : v ≤ 9) (he : e ≤ 9) : ((v : Int) ^ e).natAbs < 2 ^ 9000 := by
  rw [Int.natAbs_pow]
  exact Nat.lt_of_le_of_lt (Nat.pow_le_pow_left (show (v : Int).natAbs ≤ 9 by omega) e) (Nat.lt_of_le_of_lt (Nat.pow_le_pow_right (n := 9) (by decide) he) (Nat.lt_of_lt_of_le (show 9 ^ 9 < 2 ^ 30 by decide) (Nat.pow_le_pow_right (by decide) (by omega))))
section
variable {P : Program} {w : World} {K : PySem.W.Frag} {mg : Str → Option Value} {base : Heap} (bi : Bi mg)
def spPut (K : PySem.W.Frag) : Sp := fun vs H Q _ => ∃ (x : PutA) (p : Addr) (B : Hp), vs = [.ref p, .int (x.i : Int), .int (x.v : Int)] ∧ Evl.Ex B H ∧ OwnO p (polyO x.P) B H ∧ PutOk x ∧
  ∀ d H' B', H d = none → Ext B (hideH H [p]) B' H' → OwnO p (polyO x.P) B' H' → OwnO d (polyO (putInto x.P x.i x.v)) B' H' → Q (.ref d) H'
include bi in
theorem ok_put_into {f : Addr} {fd : FuncData} (F : L2.Fun K "put_into" "put_into" st_put_into f fd) (c_raised : Wk.Cal P w K mg base 1 "raised" (spRaised K)) : FnOk P w K mg base CX0 2 f fd ["polynomial", "index", "value"] (spPut K) := by
  refine F.ok sc_put_into (fun vs H Q E h => ?_) (fun cdv A outer s H vs Q E hr h => ⟨_, (pss_cons (ps_set (i := 3) sc_put_into.nd rfl (by first | exact Or.inl rfl | exact Or.inr rfl) pe_dnewT)
      (pss_cons (ps_lock (ps_for PassesOwn.never (by rfl) (pi_itemsT (pv 0)) (pg_tup (by rfl) (pgs_cons (pg_name (i := 4) sc_put_into.nd rfl (by first | exact Or.inl rfl | exact Or.inr rfl)) (pgs_cons (pg_name (i := 5) sc_put_into.nd rfl (by first | exact Or.inl rfl | exact Or.inr rfl)) pgs_nil))) (pss_cons (ps_set (i := 6) sc_put_into.nd rfl (by first | exact Or.inl rfl | exact Or.inr rfl) (pe_callTy (r := rTupOf K) call_tuple_of (by rfl) bi.tuple (by decide +kernel) (pa_cons (pe_lc (own := [("name", 7)]) (wi := iSq K _) (g := gName 7) (by rfl) sc_put_into.nd (pi_sq (pv 4)) (blkOk_by (N := N_put_into) (sc := (defScope st_put_into)) (by decide +kernel)) (fun _ _ _ _ _ => (pg_name (i := 7) sc_put_into.nd rfl (by first | exact Or.inl rfl | exact Or.inr rfl))) (fun _ _ _ _ _ => pts_one (pt_cmpR (r := rNeD K) (op_neD hr.units) (pv 7) (pv 1) (nomark _))) (fun _ _ _ _ _ => (pv 7))) pa_nil)))
      (pss_one (ps_dput (hu_of hr) (pv 3) (pv 6) (pe_op op_add (pe_dget2 (hu_of hr) (pv 3) (pv 6) pe_int ⟨by rfl, by rfl, by rfl, by rfl⟩) (pe_op op_mulW (pv 5) (pe_cal c_raised hr (by decide) (by rfl) (pa_cons (pv 2) (pa_cons (pe_op op_sub (pe_callB (r := rLenSq K) call_len_seq (by rfl) bi.len (by decide +kernel) (pa_cons (pv 4) pa_nil)) (pe_callB (r := rLenSq K) call_len_seq (by rfl) bi.len (by decide +kernel) (pa_cons (pv 6) pa_nil))) pa_nil))))) (by rfl))))))
      (pss_one (ps_ret (pe_lock (pe_dcT (own := [("names", 4), ("number", 5)]) (wi := iItemsT _) (g := gPair K 4 5) (by rfl) (Nat.lt_of_le_of_lt (Nat.le_add_right _ _) (hu_of hr)) sc_put_into.nd (pi_itemsT (pv 3)) (blkOk_by (N := N_put_into) (sc := (defScope st_put_into)) (by decide +kernel)) (fun _ _ _ _ _ => (pg_tup (by rfl) (pgs_cons (pg_name (i := 4) sc_put_into.nd rfl (by first | exact Or.inl rfl | exact Or.inr rfl)) (pgs_cons (pg_name (i := 5) sc_put_into.nd rfl (by first | exact Or.inl rfl | exact Or.inr rfl)) pgs_nil)))) (fun _ _ _ _ _ => pts_one (pt_cmpR (r := rNeD K) (op_neD hr.units) (pv 5) pe_int (nomark _))) (fun _ _ _ _ _ => (pv 4)) (fun _ _ _ _ _ => (pv 5)))))))), ?_⟩)
  · obtain ⟨x, p, B, rfl, _⟩ := h
    rfl
  obtain ⟨⟨Pp, ix, v⟩, p, B, rfl, eb, op, ⟨hv, hlen, hshort, hbig⟩, k⟩ := h
  dsimp only at op hv hlen hshort hbig k ⊢
  have e0 := env_ents (K := K) (B := B) (N := N_put_into) (.cons (t := .val (.ref p)) rfl (.cons (ok_dat (.int (ix : Int))) (.cons (ok_dat (.int (v : Int))) .nil))) (show 3 ≤ 8 by decide)
  have X0 : Ext B (hideH H [p]) B H := Ext.base eb fun z hz => by rw [List.mem_singleton.mp hz]; exact op.1
  have np : hideH H [p] p = none := hide_in (by simp)
  refine s_dnew e0 eb fun fdd σ1 H1 hfd x1 of1 e1 => ?_
  have nf : hideH H [p] fdd = none := by
    unfold hideH
    split
    · rfl
    · exact hfd
  have op1 := op.ext trivial x1
  have pf : p ≠ fdd := fun z => by rw [← z, op.2] at hfd; cases hfd
  refine s_lock e1 (X0.trans x1) np op1 fun od X2 op2 => ?_
  have of2 : OwnO fdd (polyO (putN Pp ix v 0)) B (upd H1 p (.frz od (polyO Pp))) := of1.keep (fun z => pf z.symm)
  generalize upd H1 p (.frz od (polyO Pp)) = H2 at X2 op2 of2
  let G0 : Gam := [.val (.ref p), .dat (.int (ix : Int)), .dat (.int (v : Int)), .val (.ref fdd), .no, .no, .no, .no]
  refine s_items (i := 0) (kvs := encP V.int Pp) (od := od) rfl e1 X2 op2 (Gi := fun _ => G0) (Φ := fun i B' H' => OwnO fdd (polyO (putN Pp ix v i)) B' H') ⟨⟨rfl, rfl, rfl, rfl, trivial, trivial, trivial, trivial, trivial⟩, of2⟩ (fun i B H B' H' o x => o.ext trivial x) (fun n ky vv nm σ3 B3 H3 hkv X3 b3 op3 of3 hnm e3 => ?_) (fun σ3 B3 H3 e3 X3 b3 op3 of3 => ?_)
  · obtain ⟨⟨names, number⟩, hP, rfl, rfl⟩ := poly_at hkv
    have mP : (names, number) ∈ Pp := List.mem_of_getElem? hP
    have iP : n < Pp.length := (List.getElem?_eq_some_iff.mp hP).1
    have hs := hshort _ mP
    have hb := hbig _ mP
    dsimp only at e3 hnm hs hb
    have e4 := (e3.re (i := 4) (v := .ref nm) (t := .tk (names.map fun n : Nat => (n : Int))) rfl ⟨nm, rfl, by rw [← encK_V]; exact hnm⟩).re (i := 5) (v := .int number) (t := .dat (.int number)) rfl (ok_dat (.int number))
    have rl : (La.rest ix names).length ≤ names.length := List.length_filter_le _ _
    have L : ((names.map fun n : Nat => (n : Int)).map PyData.int).length = names.length := by rw [List.length_map, List.length_map]
    have at_ : ∀ i, i < ((names.map fun n : Nat => (n : Int)).map PyData.int).length → ((names.map fun n : Nat => (n : Int)).map PyData.int)[i]? = some (.int ((names.getD i 0 : Nat) : Int)) := fun i hi => by
      rw [L] at hi
      rw [List.getElem?_map, List.getElem?_map, List.getD_eq_getElem?_getD, List.getElem?_eq_getElem hi]
      rfl
    refine s_asg (ev_tupK (ns := (La.rest ix names).map fun n : Nat => (n : Int)) ((en_lc (p := fun j => decide (names.getD j 0 ≠ ix)) (f := fun j => .int ((names.getD j 0 : Nat) : Int)) (w_sq (k := false) (item := fun j => .int ((names.getD j 0 : Nat) : Int)) (ev_tkD rfl) at_) (by rw [L]; omega) (by decide) (fun j hj => (et_test (ev_neI (ev_var rfl) (ev_var rfl))).cast ?_) (fun j hj _ => ev_var rfl)).cast ?_)) e4 X3.le fun σ5 H5 B5 x5 e5 => ?_
    · by_cases q : names.getD j 0 = ix
      · rw [q]; simp
      · have : ((names.getD j 0 : Nat) : Int) ≠ (ix : Int) := by omega
        rw [decide_eq_true q]
        simpa using this
    · rw [L, picked_list (h := fun j => decide (j ≠ ix)) (f := fun j => .int ((j : Nat) : Int)), List.map_map]
      rfl
    · have of5 := of3.ext trivial x5
      have lenD : ∀ {G : Gam} {te : TE} (l : List Nat), ED K te G (.tuple ((l.map fun n : Nat => (n : Int)).map .int)) → ED K (tCB (rLenSq K) (tCons te tNil)) G (.int (l.length : Int)) := fun l h => (ev_cb (ea_cons h ea_nil) (cv_len (k := false) (ds := (l.map fun n : Nat => (n : Int)).map .int))).cast (by rw [List.length_map, List.length_map])
      have ex : ((names.length : Int) - ((La.rest ix names).length : Int)) = ((exps ix names : Nat) : Int) := by unfold exps; omega
      have he : exps ix names ≤ 9 := by unfold exps; omega
      refine s_dadd (kvs' := encP V.int (padd (putN Pp ix v n) (La.rest ix names) (number * (v : Int) ^ exps ix names))) (k := encK (La.rest ix names)) (encK_V _) rfl rfl (ev_mul (ev_var rfl) (ev_call (ea_cons (ev_var rfl) (ea_cons ((ev_sub (lenD names (ev_tkD rfl)) (lenD (La.rest ix names) (ev_tkD rfl))).cast (by rw [ex])) ea_nil)) (spD_v ((v : Int), exps ix names) ⟨show (v : Int).natAbs ≤ 9 by omega, he⟩)) (mul9 hb (pow_small hv he))) e5 (X3.trans x5) nf of5 poly_get ?_ poly_put fun H6 B6 X6 b6 of6 kp6 e6 => ?_
      · rw [encP_len]
        have := putN_len (P := Pp) (i := ix) (v := (v : Int)) n (by omega)
        omega
      · refine ⟨B6, e6.le ?_, X6, (b3.trans x5.bb).trans b6, kp6 p _ pf trivial (op3.ext trivial x5), ?_⟩
        · exact ⟨rfl, rfl, rfl, rfl, trivial, trivial, trivial, trivial, trivial⟩
        · rw [putN_succ hP]
          exact of6
  · rw [encP_len] at of3
    obtain ⟨X4, op4⟩ := op3.unlock X3 np
    have of4 : OwnO fdd (polyO (putN Pp ix v Pp.length)) B3 (upd H3 p (.dT (encP V.int Pp))) := of3.keep (fun z => pf z.symm)
    refine ⟨op3.2, ?_⟩
    dsimp only [tRet]
    generalize upd H3 p (.dT (encP V.int Pp)) = H4 at X4 op4 of4
    have es : putN Pp ix v Pp.length = putSum Pp ix v := by unfold putN putSum; rw [List.take_length]
    rw [es] at of4
    refine e_pick (i := 3) (g := pickG) (kvs := encP V.int (putSum Pp ix v)) rfl e3 X4 nf of4 ?_ (encP_nd (put_fold (φ := fun _ => 0) (T := Pp) (f := []) List.nodup_nil).1) ⟨by decide, by decide⟩ (fun ky vv q m => ?_) rfl rfl (by decide) ⟨show 4 < 8 by decide, show 5 < 8 by decide⟩ fun d H5 B5 hd X5 b5 of5 od5 kp5 => ?_
    · rw [encP_len, ← es]
      have := putN_len (P := Pp) (i := ix) (v := (v : Int)) Pp.length (Nat.le_refl _)
      omega
    · obtain ⟨n, hn, en⟩ := List.getElem_of_mem m
      obtain ⟨kv, _, rfl, rfl⟩ := poly_at (show (encP V.int (putSum Pp ix v))[n]? = some (ky, vv) by rw [List.getElem?_eq_getElem hn, en])
      exact et_test (ev_neI (ev_valI rfl) ev_int)
    · rw [encP_pick] at od5
      have hd0 : H d = none := by
        have q := Evl.fresh_back X4.ex hd
        unfold hideH at q
        split at q
        · rename_i hm
          rw [List.mem_singleton.mp hm, op4.2] at hd
          cases hd
        · exact q
      exact k d H5 B5 hd0 X5 (kp5 p _ pf trivial op4) od5
end
end At
-- V12
namespace At
open PySem PySem.Spec PyProof.Rows L2 Wk La
abbrev st_numbers_for : Stmt := topS 42
abbrev N_numbers_for : List Str := ["polynomial", "many", "size", "found", "index", "fits", "value"]
theorem sc_numbers_for : FnScope N_numbers_for ["polynomial", "many", "size"] (defScope st_numbers_for) := ⟨rfl, rfl, rfl, by decide +kernel, rfl, by decide +kernel, by decide +kernel⟩
structure NmA where
  P : Poly
  m : Nat
  n : Nat
structure NmOk (x : NmA) : Prop where
  n : x.n = 1 ∨ x.n = 2 ∨ x.n = 3
  m : x.m ≤ 9
  canon : Canon x.n x.P
  ne : x.P ≠ []
  var : AllK (fun k => ∀ j ∈ k, j < x.m) x.P
  nrm : nrm x.P < 2 ^ 8000
  len : x.P.length < 90000
theorem put_len {P : Poly} {i : Nat} {v : Int} : (putInto P i v).length ≤ P.length := by
  have h1 : (putInto P i v).length ≤ (putSum P i v).length := List.length_filter_le _ _
  have e : putSum P i v = putN P i v P.length := by unfold putN putSum; rw [List.take_length]
  have h2 := putN_len (P := P) (i := i) (v := v) P.length (Nat.le_refl _)
  rw [← e] at h2
  omega
theorem nums_len {P : Poly} {n : Nat} : ∀ i, (numsP P n i).length ≤ P.length
  | 0 => Nat.le_refl _
  | i + 1 => Nat.le_trans put_len (nums_len i)
theorem nums_put {x : NmA} (h : NmOk x) {i v : Nat} (hi : i ≤ 9) (hv : v ≤ x.n) : PutOk ⟨numsP x.P x.n i, i, v⟩ := by
  have N := num_all h.n h.canon h.ne h.var i
  have nb := num_nrm h.n h.canon h.ne h.var i
  have n3 : x.n ≤ 3 := by have := h.n; omega
  refine ⟨by show v ≤ 9; omega, Nat.lt_of_le_of_lt (nums_len i) h.len, fun kv m => ?_, fun kv m => ?_⟩
  · have := N.canon.len kv m
    dsimp only at this ⊢
    omega
  · refine Nat.lt_of_le_of_lt (nrm_mem m) (Nat.lt_of_le_of_lt nb ?_)
    have h1 : 27 ^ i ≤ 2 ^ 45 := Nat.le_trans (Nat.pow_le_pow_right (n := 27) (by decide) hi) (by decide)
    have h2 : 27 ^ i * nrm x.P ≤ 2 ^ 45 * nrm x.P := Nat.mul_le_mul_right _ h1
    have h3 : 2 ^ 45 * nrm x.P < 2 ^ 45 * 2 ^ 8000 := Nat.mul_lt_mul_of_pos_left h.nrm (Nat.pow_pos (by decide))
    rw [← Nat.pow_add] at h3
    exact Nat.lt_of_le_of_lt h2 (Nat.lt_of_lt_of_le h3 (Nat.pow_le_pow_right (by decide) (by omega)))
section
variable {P : Program} {w : World} {K : PySem.W.Frag} {mg : Str → Option Value} {base : Heap} (bi : Bi mg)
theorem call_put {G : Gam} {te : TE} {σ : L2.St} {B H : Hp} {p : Addr} {x : PutA} (h0 : G[0]? = some (.val (.ref p))) (h4 : G[4]? = some (.dat (.int (x.i : Int)))) (hv : ED K te G (.int (x.v : Int))) (ok : PutOk x) (e : Wk.Env K B σ G) (eb : Evl.Ex B H) (o : OwnO p (polyO x.P) B H) {Q : VK}
    (k : ∀ d H' B', H d = none → Ext B H B' H' → OwnO d (polyO (putInto x.P x.i x.v)) B' H' → Q (.ref d) H') : tCall (spPut K) [] E0 (tCons (tVar 0) (tCons (tVar 4) (tCons te tNil))) σ H Q := by
  obtain ⟨v4, a4, r4⟩ := env_dat e h4
  refine ⟨.ref p, env_dat e h0, v4, a4, hv σ B H e eb _ fun v H1 B1 x1 r1 => ?_⟩
  rw [dp_int r4, dp_int (dat_ok r1)]
  have o1 := o.ext trivial x1
  refine ⟨x, p, B1, rfl, x1.le, o1, ok, fun d H' B' hd Y o2 od => ?_⟩
  exact k d H' B' (Evl.fresh_back x1.ex hd) (x1.trans (Y.same o1 o2)) od
def spNums (K : PySem.W.Frag) : Sp := fun vs H Q _ => ∃ (x : NmA) (p : Addr) (B : Hp), vs = [.ref p, .int (x.m : Int), .int (x.n : Int)] ∧ Evl.Ex B H ∧ OwnO p (polyO x.P) B H ∧ NmOk x ∧
  ∀ v H' B', Ext B (hideH H [p]) B' H' → OwnO p (polyO x.P) B' H' → Dp K B' v (.list (vec x.m (numV x.P x.n))) → Q v H'
include bi in
theorem ok_numbers_for {f : Addr} {fd : FuncData} (F : L2.Fun K "numbers_for" "numbers_for" st_numbers_for f fd) (c_put_into : Wk.Cal P w K mg base 2 "put_into" (spPut K)) : FnOk P w K mg base CX0 3 f fd ["polynomial", "many", "size"] (spNums K) := by
  refine F.ok sc_numbers_for (fun vs H Q E h => ?_) (fun cdv A outer s H vs Q E hr h => ⟨_, (pss_cons (ps_set (i := 3) sc_numbers_for.nd rfl (by first | exact Or.inl rfl | exact Or.inr rfl) (pe_lst pa_nil))
      (pss_cons (ps_for PassesOwn.never (by rfl) (pi_range1 (by rfl) bi.range (pa_cons (pv 1) pa_nil)) (pg_name (i := 4) sc_numbers_for.nd rfl (by first | exact Or.inl rfl | exact Or.inr rfl)) (pss_cons (ps_setLc (own := [("value", 6)]) (wi := _) (g := gName 6) (i := 5) rfl sc_numbers_for.nd rfl rfl rfl (pi_range1 (by rfl) bi.range (pa_cons (pe_op op_add (pv 2) pe_int) pa_nil)) (blkOk_by (N := N_numbers_for) (sc := (defScope st_numbers_for)) (by decide +kernel)) (fun _ _ _ _ _ => (pg_name (i := 6) sc_numbers_for.nd rfl (by first | exact Or.inl rfl | exact Or.inr rfl))) (fun _ _ _ _ _ => pts_one (pt_cmpR op_gt (pe_callB (r := rLenT) call_len_dT (by rfl) bi.len (by decide +kernel) (pa_cons (pe_cal c_put_into hr (by decide) (by rfl) (pa_cons (pv 0) (pa_cons (pv 4) (pa_cons (pv 6) pa_nil)))) pa_nil)) pe_int (nomark _))) (fun _ _ _ _ _ => (pv 6)))
      (pss_cons (ps_expr (pe_bm PySem.F.plainAttrs_list PySem.F.slot_list_append PySem.F.type_list_append mt_append (pv 3) (pa_cons (pe_ix (r := rIx K) ix_seq (pv 5) pe_int (fun _ _ => rfl)) pa_nil)))
      (pss_one (ps_set (i := 0) sc_numbers_for.nd rfl (by first | exact Or.inl rfl | exact Or.inr rfl) (pe_cal c_put_into hr (by decide) (by rfl) (pa_cons (pv 0) (pa_cons (pv 4) (pa_cons (pe_ix (r := rIx K) ix_seq (pv 5) pe_int (fun _ _ => rfl)) pa_nil)))))))))
      (pss_one (ps_ret (pv 3))))), ?_⟩)
  · obtain ⟨x, p, B, rfl, _⟩ := h
    rfl
  obtain ⟨⟨Pp, m, n⟩, p, B, rfl, eb, op, ok, k⟩ := h
  have hn := ok.n
  have hm := ok.m
  have nx : ∀ i v, i ≤ 9 → v ≤ n → PutOk ⟨numsP Pp n i, i, v⟩ := fun i v h1 h2 => nums_put ok h1 h2
  have N := fun i => num_all ok.n ok.canon ok.ne ok.var i
  dsimp only at op hn hm N k ⊢
  have e0 := env_ents (K := K) (B := B) (N := N_numbers_for) (.cons (t := .val (.ref p)) rfl (.cons (ok_dat (.int (m : Int))) (.cons (ok_dat (.int (n : Int))) .nil))) (show 3 ≤ 7 by decide)
  have X0 : Ext B (hideH H [p]) B H := Ext.base eb fun z hz => by rw [List.mem_singleton.mp hz]; exact op.1
  have np : hideH H [p] p = none := hide_in (by simp)
  have lift : ∀ {d : Addr}, H d = none → hideH H [p] d = none := fun hd => by
    unfold hideH
    split
    · rfl
    · exact hd
  refine s_asgN (en_lst ea_nil (by simp)) e0 eb fun pf xs σ1 H1 B1 hpf x1 h1 b1 r1 e1 => ?_
  have op1 := op.ext trivial x1
  have X1 := X0.trans x1
  have npf := lift hpf
  have pne : p ≠ pf := fun z => by rw [← z, op.2] at hpf; cases hpf
  refine s_forS (n := (m : Int).toNat) (B0 := B) (H0 := hideH H [p]) (Gi := fun _ => [.no, .dat (.int (m : Int)), .dat (.int (n : Int)), .val (.ref pf), .no, .no, .no]) (Φ := fun _ i σ' B' H' => (∃ pi, σ'[0]? = some (some (.ref pi)) ∧ hideH H [p] pi = none ∧ pi ≠ pf ∧ OwnO pi (polyO (numsP Pp n i)) B' H') ∧ OwnO p (polyO Pp) B' H' ∧ Own K pf (vec i (numV Pp n)) B' H') (w_rng1 (ea_cons (ev_var rfl) ea_nil) ⟨by omega, by omega⟩) e1 X1 (fun B2 H2 x2 => ⟨⟨trivial, rfl, rfl, rfl, trivial, trivial, trivial, trivial⟩, ⟨p, (by exact env_dat e1 (i := 0) (t := .val (.ref p)) rfl), np, pne, op1.ext trivial x2⟩, op1.ext trivial x2, (Own.to h1 b1 r1).ext x2⟩) (fun B2 i σ2 σ3 B3 H3 H4 hi X3 b3 ⟨⟨pi, s0, ni, pif, oi⟩, op3, of3⟩ x4 keep e3 => ?_) (fun B2 σ3 B3 H3 e3 X3 b3 ⟨_, op3, of3⟩ => ?_)
  · have hi : i < m := by omega
    have s0' : σ3[0]? = some (some (.ref pi)) := by rw [keep 0 (by decide)]; exact s0
    have e4 := e3.know s0'
    have oi4 := oi.ext trivial x4
    have op4 := op3.ext trivial x4
    have of4 := of3.ext x4
    obtain ⟨v0, t0, ef, hv0, hne⟩ := fits_ne hn (N i).canon (N i).ne i
    have n3 : n ≤ 3 := by omega
    dsimp only [tSeq, tAsg]
    refine lcI (I := fun B H => OwnO pi (polyO (numsP Pp n i)) B H ∧ OwnO p (polyO Pp) B H ∧ Own K pf (vec i (numV Pp n)) B H) (fun B H B' H' o x => ⟨o.1.ext trivial x, o.2.1.ext trivial x, o.2.2.ext x⟩) (pp := fun j => decide (0 < (putInto (numsP Pp n i) i (j : Int)).length)) (f := fun j => .int (j : Int)) (n := ((n : Int) + 1).toNat) (js := [6]) (up := fun i G => G.set 6 (.dat (.int (i : Int)))) ?_ ?_ ?_ (fun j hj => ?_) ?_ e4 x4.le ⟨oi4, op4, of4⟩ (fun B1 H1 B H L o hL o1 oo => ⟨oo.1.keep (o1.1.neN hL), oo.2.1.keep (o1.2.1.neN hL), oo.2.2.keepU (o1.2.2.neN hL)⟩) fun pl ys H5 B5 hpl x5 h5 b5 r5 => ?_
    · exact w_rng1 (ea_cons (ev_add (ev_var rfl) ev_int) ea_nil) ⟨by omega, by omega⟩
    · omega
    · decide
    · intro σ B H e eb oo Q kk
      refine call_put (x := ⟨numsP Pp n i, i, j⟩) rfl rfl (ev_var rfl) (nx i j (by omega) (by omega)) e eb oo.1 fun d H' B' hd x od => ?_
      refine ⟨d, _, rfl, od.2, _, _, rfl, rfl, decide ((0 : Int) < ((encP V.int (putInto (numsP Pp n i) i (j : Int))).length : Int)), rfl, ?_⟩
      have : decide ((0 : Int) < ((encP V.int (putInto (numsP Pp n i) i (j : Int))).length : Int)) = decide (0 < (putInto (numsP Pp n i) i (j : Int)).length) := by
        rw [encP_len]
        exact decide_eq_decide.mpr (by omega)
      rw [this]
      exact kk H' B' x
    · exact fun j hj _ => (ev_var rfl).inv
    · have x45 := x4.trans x5
      have e5 := (e4.mono x5.bb).set (i := 5) (t := .val (.ref pl)) (v := .ref pl) rfl
      have ofits : Own K pl ((fits (numsP Pp n i) n i).map fun v : Nat => PyData.int (v : Int)) B5 H5 := by
        have := Own.to h5 b5 r5
        unfold picked at this
        rw [show ((n : Int) + 1).toNat = n + 1 by omega] at this
        exact this
      rw [ef] at ofits
      have oi5 := oi4.ext trivial x5
      have op5 := op4.ext trivial x5
      have of5 := of4.ext x5
      have npl : hideH H [p] pl = none := Evl.fresh_back (X3.trans x4).ex hpl
      have nlf : pl ≠ pf := of4.ne hpl
      obtain ⟨B6, e6, X6, b6, kl6, kp6⟩ := ofits.show2 e5 (X3.trans x45) npl (i := 5) rfl
      have oi6 := kp6 pi _ (oi4.neN hpl) oi5
      have op6 := kp6 p _ (op4.neN hpl) op5
      have of6 := kl6 pf _ (fun z => nlf z.symm) of5
      have ix : ∀ {G : Gam}, G[5]? = some (.dat (.list ((v0 :: t0).map fun v : Nat => PyData.int (v : Int)))) → ED K (tOp (rIx K) (tVar 5) (tC (.int 0))) G (.int (v0 : Int)) := fun h => ev_ix (k := true) (n := 0) (ev_var h) ev_int rfl rfl
      refine Own.app2 rfl (ix rfl) e6 X6 npf of6 (by rw [vec_len]; omega) fun H7 B7 X7 b7 kl7 kp7 of7 e7 => ?_
      have oi7 := kp7 pi (polyO (numsP Pp n i)) pif trivial oi6
      have op7 := kp7 p (polyO Pp) pne trivial op6
      refine call_put (x := ⟨numsP Pp n i, i, v0⟩) rfl rfl (ix rfl) (nx i v0 (by omega) hv0) e7 X7.le oi7 fun d H8 B8 hd x8 od => ?_
      have e8 := (e7.mono x8.bb).set (i := 0) (t := .val (.ref d)) (v := .ref d) rfl
      refine ⟨B8, e8.le ?_, X7.trans x8, ((b3.trans x45.bb).trans b6).trans (b7.trans x8.bb), ⟨d, (by exact env_dat e8 (i := 0) (t := .val (.ref d)) rfl), Evl.fresh_back X7.ex hd, (of7.neN hd).symm, ?_⟩, op7.ext trivial x8, ?_⟩
      · exact ⟨trivial, rfl, rfl, rfl, trivial, trivial, trivial, trivial⟩
      · have es : numsP Pp n (i + 1) = putInto (numsP Pp n i) i (v0 : Int) := by
          show putInto (numsP Pp n i) i (((fits (numsP Pp n i) n i).headD 0 : Nat) : Int) = _
          rw [ef]
          rfl
        rw [es]
        exact od
      · have ev : vec (i + 1) (numV Pp n) = vec i (numV Pp n) ++ [.int (v0 : Int)] := by
          unfold vec
          rw [List.range_succ, List.map_append]
          congr 1
          show [PyData.int (numV Pp n i)] = _
          unfold numV
          rw [ef]
          rfl
        rw [ev]
        exact of7.ext x8
  · dsimp only [tRet]
    rw [show (m : Int).toNat = m from rfl] at of3
    have e3' := e3
    obtain ⟨B4, e4, X4, b4, kl4, kp4⟩ := of3.show2 e3 X3 npf (i := 3) rfl
    obtain ⟨v, a, r⟩ := env_dat e4 (i := 3) rfl
    exact ⟨v, a, k v H3 B4 X4 (kp4 p _ pne op3) r⟩
end
end At
-- V13
namespace At
open PySem PySem.Spec PyProof.Rows L2 Wk La
abbrev LA := List (List Nat × Addr)
abbrev stO (L : LA) : HO := .dT (encP V.ref L)
/-- the polynomials stand at their addresses -/
inductive DS (B H : Hp) : LA → PState → Prop
  | nil : DS B H [] []
  | cons {k : List Nat} {a : Addr} {P : Poly} {L : LA} {S : PState} : OwnO a (polyO P) B H → DS B H L S → DS B H ((k, a) :: L) ((k, P) :: S)
section
variable {B H B' H' : Hp} {L : LA} {S : PState} {k : List Nat} {a : Addr} {P : Poly}
theorem DS.imp (h : DS B H L S) (f : ∀ a P, a ∈ L.map Prod.snd → OwnO a (polyO P) B H → OwnO a (polyO P) B' H') : DS B' H' L S := by
  induction h with
  | nil => exact .nil
  | cons o _ ih => exact .cons (f _ _ List.mem_cons_self o) (ih fun a P m => f a P (List.mem_cons_of_mem _ m))
theorem DS.ext (h : DS B H L S) (x : Ext B H B' H') : DS B' H' L S := h.imp fun _ _ _ o => o.ext trivial x
theorem DS.keys (h : DS B H L S) : L.map Prod.fst = S.map Prod.fst := by
  induction h with
  | nil => rfl
  | cons _ _ ih => rw [List.map_cons, List.map_cons, ih]
theorem DS.len (h : DS B H L S) : L.length = S.length := by
  have := congrArg List.length h.keys
  rwa [List.length_map, List.length_map] at this
theorem DS.at_ (h : DS B H L S) : ∀ {i : Nat}, L[i]? = some (k, a) → ∃ P, S[i]? = some (k, P) ∧ OwnO a (polyO P) B H := by
  induction h with
  | nil => intro i e; simp at e
  | cons o _ ih =>
    intro i e
    cases i with
    | zero => cases e; exact ⟨_, rfl, o⟩
    | succ i => exact ih e
theorem DS.own_some (h : DS B H L S) {a : Addr} (m : a ∈ L.map Prod.snd) : ∃ P, OwnO a (polyO P) B H := by
  induction h with
  | nil => cases m
  | cons o _ ih =>
    rcases List.mem_cons.mp m with q | q
    · rw [q]; exact ⟨_, o⟩
    · exact ih q
/-- the address of a key -/
def adr (L : LA) (k : List Nat) : Option Addr := (L.find? fun kv => decide (kv.1 = k)).map (·.2)
theorem adr_get : valV (encP V.ref L) (encK k) = (adr L k).map V.ref := encP_get
theorem adr_mem (h : adr L k = some a) : a ∈ L.map Prod.snd ∧ k ∈ L.map Prod.fst := by
  unfold adr at h
  cases e : L.find? fun kv => decide (kv.1 = k) with
  | none => rw [e] at h; cases h
  | some kv =>
    rw [e] at h
    cases h
    have m := List.mem_of_find?_eq_some e
    have q0 := @List.find?_some _ (fun kv : List Nat × Addr => decide (kv.1 = k)) kv L e
    have q : kv.1 = k := of_decide_eq_true q0
    exact ⟨List.mem_map.mpr ⟨kv, m, rfl⟩, List.mem_map.mpr ⟨kv, m, q⟩⟩
theorem adr_none (h : adr L k = none) : k ∉ L.map Prod.fst := by
  intro m
  obtain ⟨kv, hm, e⟩ := List.mem_map.mp m
  unfold adr at h
  cases e2 : L.find? fun kv => decide (kv.1 = k) with
  | none => exact (List.find?_eq_none.mp e2) kv hm (decide_eq_true e)
  | some kv => rw [e2] at h; cases h
theorem DS.adr (h : DS B H L S) (e : At.adr L k = some a) : OwnO a (polyO (sget S k)) B H := by
  induction h with
  | nil => cases e
  | @cons k' a' P L S o _ ih =>
    unfold At.adr at e
    rw [List.find?_cons] at e
    unfold sget
    rw [List.find?_cons]
    by_cases q : k' = k
    · rw [decide_eq_true q] at e ⊢
      cases e
      exact o
    · rw [decide_eq_false q] at e ⊢
      exact ih e
/-- one polynomial is changed -/
theorem DS.put (h : DS B H L S) (e : At.adr L k = some a) (ns : Ns S) (nd : (L.map Prod.snd).Nodup) (f : ∀ b P, b ∈ L.map Prod.snd → b ≠ a → OwnO b (polyO P) B H → OwnO b (polyO P) B' H') (o : OwnO a (polyO P) B' H') : DS B' H' L (sput S k P) := by
  have hk : k ∈ S.map Prod.fst := by rw [← h.keys]; exact (adr_mem e).2
  unfold sput
  rw [if_pos (s_any.mpr hk)]
  clear hk
  induction h with
  | nil => cases e
  | @cons k' a' P' L S o' hh ih =>
    have ns2 := List.nodup_cons.mp (show (k' :: S.map Prod.fst).Nodup from ns)
    have nd2 := List.nodup_cons.mp (show (a' :: L.map Prod.snd).Nodup from nd)
    unfold At.adr at e
    rw [List.find?_cons] at e
    rw [List.map_cons]
    by_cases q : k' = k
    · rw [decide_eq_true q] at e
      cases e
      rw [if_pos q]
      refine .cons o ?_
      rw [s_fix (by rw [← q]; exact ns2.1)]
      exact hh.imp fun b P m ob => f b P (List.mem_cons_of_mem _ m) (fun z => nd2.1 (by have z : b = a' := z; rw [← z]; exact m)) ob
    · rw [decide_eq_false q] at e
      rw [if_neg q]
      refine .cons (f a' P' List.mem_cons_self (fun z => nd2.1 (by rw [z]; exact (adr_mem (show At.adr L k = some a from e)).1)) o') (ih e ns2.2 nd2.2 fun b P m => f b P (List.mem_cons_of_mem _ m))
theorem DS.snoc (h : DS B H L S) (hk : k ∉ L.map Prod.fst) (o : OwnO a (polyO P) B H) : DS B H (L ++ [(k, a)]) (sput S k P) := by
  have hk' : k ∉ S.map Prod.fst := by rw [← h.keys]; exact hk
  unfold sput
  rw [if_neg (fun z => hk' (s_any.mp z))]
  clear hk hk'
  induction h with
  | nil => exact .cons o .nil
  | cons o' _ ih => exact .cons o' ih
theorem adr_snoc (hk : k ∉ L.map Prod.fst) : adr (L ++ [(k, a)]) k = some a := by
  unfold adr
  rw [List.find?_append, List.find?_eq_none.mpr fun kv m q => hk (List.mem_map.mpr ⟨kv, m, of_decide_eq_true q⟩)]
  simp
theorem sput_in (h : k ∈ S.map Prod.fst) : sput S k P = S.map fun kv => if kv.1 = k then (kv.1, P) else kv := by
  unfold sput
  rw [if_pos (s_any.mpr h)]
theorem sput_out (h : k ∉ S.map Prod.fst) : sput S k P = S ++ [(k, P)] := by
  unfold sput
  rw [if_neg (fun z => h (s_any.mp z))]
theorem sget_map : ∀ {S : PState}, Ns S → k ∈ S.map Prod.fst → sget (S.map fun kv => if kv.1 = k then (kv.1, P) else kv) k = P
  | [], _, h => nomatch h
  | a :: S, ns, hk => by
    have nd := List.nodup_cons.mp (show (a.1 :: S.map Prod.fst).Nodup from ns)
    rw [List.map_cons]
    unfold sget
    rw [List.find?_cons]
    by_cases e : a.1 = k
    · rw [if_pos e]
      dsimp only
      rw [decide_eq_true e]
      rfl
    · rw [if_neg e, decide_eq_false e]
      rw [List.map_cons] at hk
      exact sget_map nd.2 ((List.mem_cons.mp hk).resolve_left fun z => e z.symm)
theorem sget_sput (ns : Ns S) {P Q : Poly} : sget (sput S k P) k = P ∧ sput (sput S k P) k Q = sput S k Q := by
  have hk2 : k ∈ (sput S k P).map Prod.fst := by
    rw [keys_sput]
    split
    · rename_i h; exact h
    · exact List.mem_append_right _ (List.mem_singleton.mpr rfl)
  rw [sput_in hk2]
  by_cases hk : k ∈ S.map Prod.fst
  · rw [sput_in hk, sput_in hk]
    refine ⟨sget_map ns hk, ?_⟩
    rw [List.map_map]
    apply List.map_congr_left
    intro kv _
    show (if (if kv.1 = k then (kv.1, P) else kv).1 = k then ((if kv.1 = k then (kv.1, P) else kv).1, Q) else (if kv.1 = k then (kv.1, P) else kv)) = _
    by_cases e : kv.1 = k
    · rw [if_pos e]
      simp [e]
    · rw [if_neg e]
  · rw [sput_out hk, sput_out hk]
    refine ⟨?_, ?_⟩
    · unfold sget
      rw [List.find?_append, List.find?_eq_none.mpr fun kv m q => hk (List.mem_map.mpr ⟨kv, m, of_decide_eq_true q⟩)]
      simp
    · rw [List.map_append, s_fix hk]
      simp
theorem put_same (ns : (L.map Prod.fst).Nodup) (e : adr L k = some a) : putK (encP V.ref L) (encK k) (.ref a) = encP V.ref L := by
  rw [encP_put, if_pos]
  · congr 1
    induction L with
    | nil => rfl
    | cons x L ih =>
      have nd := List.nodup_cons.mp (show (x.1 :: L.map Prod.fst).Nodup from ns)
      unfold adr at e
      rw [List.find?_cons] at e
      rw [List.map_cons]
      by_cases q : x.1 = k
      · rw [decide_eq_true q] at e
        cases e
        rw [if_pos q]
        congr 1
        conv => rhs; rw [← List.map_id L]
        apply List.map_congr_left
        intro y hy
        rw [if_neg]
        · rfl
        · intro z
          exact nd.1 (by rw [q, ← z]; exact List.mem_map.mpr ⟨y, hy, rfl⟩)
      · rw [decide_eq_false q] at e
        rw [if_neg q, ih nd.2 e]
  · rw [List.any_eq_true]
    obtain ⟨kv, m, q⟩ := List.mem_map.mp (adr_mem e).2
    exact ⟨kv, m, decide_eq_true q⟩
theorem put_new (h : adr L k = none) : putK (encP V.ref L) (encK k) (.ref a) = encP V.ref (L ++ [(k, a)]) := by
  rw [encP_put, if_neg]
  intro z
  rw [List.any_eq_true] at z
  obtain ⟨kv, m, q⟩ := z
  exact adr_none h (List.mem_map.mpr ⟨kv, m, of_decide_eq_true q⟩)
end
end At
-- V14
namespace At
open PySem PySem.Spec PyProof.Rows L2 Wk La
abbrev st_determinant_of : Stmt := topS 39
abbrev N_determinant_of : List Str := ["tables", "size", "states", "at", "found", "later", "taken", "polynomial", "k", "key", "sign", "names", "number", "other"]
theorem sc_determinant_of : FnScope N_determinant_of ["tables"] (defScope st_determinant_of) := ⟨rfl, rfl, rfl, by decide +kernel, rfl, by decide +kernel, by decide +kernel⟩
section
variable {K : PySem.W.Frag} {G : Gam} {i j : Nat} {σ : L2.St} {B H B0 H0 B' H' : Hp} {De : Ends} {ps pl : Addr} {L LS LL : LA} {S SL : PState} {k : List Nat}
theorem s_setd (hp : G[i]? = some (.val (.ref pl))) (hkey : G[j]? = some (.tk (k.map fun n : Nat => (n : Int)))) (e : Wk.Env K B σ G) (X : Ext B0 H0 B H) (n0 : H0 pl = none) (o : OwnO pl (stO L) B H) (ds : DS B H L S) (ns : Ns S) (nd : (L.map Prod.snd).Nodup) (hpl : pl ∉ L.map Prod.snd) (hz : L.length < 90000)
    (kk : ∀ L' a H' B', Ext B0 H0 B' H' → Evl.Ex B B' → OwnO pl (stO L') B' H' → adr L' k = some a → DS B' H' L' (sput S k (sget S k)) → (L' = L ∨ (L' = L ++ [(k, a)] ∧ H a = none)) → (∀ q u, q ≠ pl → Mu (some u) → OwnO q u B H → OwnO q u B' H') → Wk.Env K B' σ G → De.nx σ H') :
    sDPut (tVar i) (tVar j) (tDGet2 (tVar i) (tVar j) tDNewT) De σ H := by
  obtain ⟨q, eq, kq⟩ := env_dat e hkey
  have kH := X.le q _ kq
  have ek : (encK k).map kV = (k.map fun n : Nat => (n : Int)).map V.int := encK_V k
  refine ⟨.ref pl, env_dat e hp, pl, rfl, .inr ⟨encP V.ref L, .inl o.2⟩, .ref q, eq, fun d hd => ?_⟩
  have x1 : Ext B H B (L2.upd H d (.dT [])) := Ext.hide X.le hd
  have o1 := o.ext trivial x1
  have kH1 := x1.ex q _ kH
  have od : OwnO d (polyO []) B (L2.upd H d (.dT [])) := ⟨Evl.fresh_back X.le hd, upd_same⟩
  generalize hH1 : L2.upd H d (.dT []) = H1 at x1 o1 kH1 od
  refine ⟨valV (encP V.ref L) (encK k), DGet.t o1.2 (by rw [ek]; exact kH1), ?_⟩
  have en : (L.map Prod.fst).Nodup := by rw [ds.keys]; exact ns
  cases ea : adr L k with
  | some a =>
    rw [adr_get, ea]
    refine ⟨.ref pl, env_dat e hp, .ref q, eq, pl, _, rfl, DPut.t o1.2 (by rw [ek]; exact kH1) (Evl.sz_lt (by rw [encP_len]; omega)), ?_⟩
    rw [show (Option.map V.ref (some a)).getD (V.ref d) = V.ref a from rfl, put_same en ea]
    obtain ⟨X2, o2⟩ := o1.put (o' := stO L) (X.trans x1) n0
    refine kk L a _ B X2 (Evl.Ex.refl B) o2 ea ?_ (.inl rfl) (fun r u ne m oq => (oq.ext m x1).keep ne) e
    have ne : ∀ b, b ∈ L.map Prod.snd → b ≠ pl := fun b m z => hpl (by rw [← z]; exact m)
    exact ds.put ea ns nd (fun b P m _ ob => (ob.ext trivial x1).keep (ne b m)) (((ds.adr ea).ext trivial x1).keep (ne a (adr_mem ea).1))
  | none =>
    rw [adr_get, ea]
    refine ⟨.ref pl, env_dat e hp, .ref q, eq, pl, _, rfl, DPut.t o1.2 (by rw [ek]; exact kH1) (Evl.sz_lt (by rw [encP_len]; omega)), ?_⟩
    rw [show (Option.map V.ref none).getD (V.ref d) = V.ref d from rfl, put_new ea]
    obtain ⟨X2, o2⟩ := o1.put (o' := stO (L ++ [(k, d)])) (X.trans x1) n0
    have dpl : d ≠ pl := fun z => by rw [z, o.2] at hd; cases hd
    have ne : ∀ b, b ∈ L.map Prod.snd → b ≠ pl := fun b m z => hpl (by rw [← z]; exact m)
    refine kk (L ++ [(k, d)]) d _ B X2 (Evl.Ex.refl B) o2 (adr_snoc (adr_none ea)) ?_ (.inr ⟨rfl, hd⟩) (fun r u ne m oq => (oq.ext m x1).keep ne) e
    have es : sget S k = [] := sget_not (by rw [← ds.keys]; exact adr_none ea)
    rw [es]
    exact (ds.imp fun b P m ob => (ob.ext trivial x1).keep (ne b m)).snoc (adr_none ea) (od.keep dpl)
structure DI (H0 B H : Hp) (ps : Addr) (LS : LA) (S : PState) : Prop where
  own : OwnO ps (stO LS) B H
  ds : DS B H LS S
  nd : (ps :: LS.map Prod.snd).Nodup
  fr : ∀ a ∈ ps :: LS.map Prod.snd, H0 a = none
theorem DI.ext (h : DI H0 B H ps LS S) (x : Ext B H B' H') : DI H0 B' H' ps LS S := ⟨h.own.ext trivial x, h.ds.ext x, h.nd, h.fr⟩
structure DJ (H0 B H : Hp) (ps pl : Addr) (LS LL : LA) (S SL : PState) : Prop where
  ol : OwnO pl (stO LL) B H
  dl : DS B H LL SL
  ds : DS B H LS S
  nd : (ps :: pl :: (LS.map Prod.snd ++ LL.map Prod.snd)).Nodup
  fr : ∀ a ∈ ps :: pl :: (LS.map Prod.snd ++ LL.map Prod.snd), H0 a = none
theorem DJ.ext (h : DJ H0 B H ps pl LS LL S SL) (x : Ext B H B' H') : DJ H0 B' H' ps pl LS LL S SL := ⟨h.ol.ext trivial x, h.dl.ext x, h.ds.ext x, h.nd, h.fr⟩
theorem tabNrm_le {Ts : List Tb} {a k b : Nat} (h : ∀ t, t < Ts.length → (tbl Ts t a k).natAbs < b) : ∀ m, m ≤ Ts.length → tabNrm Ts a k m ≤ m * b
  | 0, _ => by simp [tabNrm]
  | m + 1, hm => by
    have ih := tabNrm_le h m (by omega)
    have := h m (by omega)
    simp only [tabNrm]
    rw [Nat.succ_mul]
    omega
end
structure DtOk (n : Nat) (Ts : List Tb) : Prop where
  nn : n = 1 ∨ n = 2 ∨ n = 3
  t0 : 0 < Ts.length
  t9 : Ts.length ≤ 9
  cell : ∀ t, t < Ts.length → Cells n (fun c => c.natAbs < 2 ^ 410) (tbl Ts t)
theorem DtOk.T {n : Nat} {Ts : List Tb} (h : DtOk n Ts) : ∀ a k, a < n → k < n → tabNrm Ts a k Ts.length ≤ 2 ^ 414 := fun a k ha hk => by
  have := tabNrm_le (Ts := Ts) (a := a) (k := k) (fun t ht => h.cell t ht a k ha hk) Ts.length (Nat.le_refl _)
  refine Nat.le_trans this ?_
  rw [show (414 : Nat) = 4 + 410 from rfl, Nat.pow_add]
  exact Nat.mul_le_mul_right _ (by have := h.t9; omega)
/-- all that the call of added asks -/
theorem DtOk.ad {n a i j k : Nat} {Ts : List Tb} {kv : List Nat × Poly} (h : DtOk n Ts) (ha : a < n) (hS : (detStates n Ts a)[i]? = some kv) (hj : (ksOf n kv.1)[j]? = some k) :
    AdOk ⟨sget (laterJ n Ts a (detStates n Ts a) i kv j) (isort (kv.1 ++ [k])), kv.2, n, Ts, a, k, signOf kv.1 k⟩ ∧ Ns (laterJ n Ts a (detStates n Ts a) i kv j) ∧ (detStates n Ts a)[i]? = some kv ∧ kv.1.length ≤ 100000 := by
  have n3 : n ≤ 3 := by have := h.nn; omega
  have So := states_ok n3 h.t9 h.T a (by omega)
  have mem : kv ∈ detStates n Ts a := List.mem_of_getElem? hS
  have iS := (List.getElem?_eq_some_iff.mp hS).1
  have jK := (List.getElem?_eq_some_iff.mp hj).1
  have Io := laterI_ok n3 h.t9 (fun k hk => h.T a k ha hk) So.pf So.kl i (by omega)
  have Jo := laterJ_ok h.t9 (fun k hk => h.T a k ha hk) (So.pf kv mem) (So.kl kv mem) Io j (by omega)
  have km : k < n := ks_mem (List.mem_of_getElem? hj)
  have k3 := Nat.le_trans (ks_len (n := n) (taken := kv.1)) n3
  have a2 : a ≤ 2 := by omega
  have t27 : 27 ^ a ≤ 27 ^ 2 := Nat.pow_le_pow_right (by decide) a2
  have l1 : kv.2.length ≤ tot lenP (detStates n Ts a) := tot_mem (f := lenP) mem
  have l2 := So.len
  have l3 : tot lenP ((detStates n Ts a).take i) ≤ tot lenP (detStates n Ts a) := by
    conv => rhs; rw [← List.take_append_drop i (detStates n Ts a)]
    rw [tot_append]
    omega
  have l4 : (sget (laterJ n Ts a (detStates n Ts a) i kv j) (isort (kv.1 ++ [k]))).length ≤ tot lenP (laterJ n Ts a (detStates n Ts a) i kv j) := tot_get (f := lenP) rfl
  have l5 := Jo.len
  have l6 : j * (kv.2.length * 9) ≤ 3 * (kv.2.length * 9) := Nat.mul_le_mul_right _ (by omega)
  refine ⟨⟨n3, ha, km, h.t9, sign_abs.2, ?_, fun x m => ?_, fun x m => ?_, fun t ht p q hp hq => Nat.lt_of_lt_of_le (h.cell t ht p q hp hq) (Nat.pow_le_pow_right (by decide) (by omega))⟩, Jo.ns, hS, ?_⟩
  · dsimp only
    have : 27 ^ 2 = 729 := by decide
    omega
  · dsimp only at m ⊢
    have n1 : La.nrm kv.2 ≤ tot La.nrm (detStates n Ts a) := tot_mem mem
    have n2 := So.nrm
    refine Nat.lt_of_le_of_lt (Nat.le_trans (nrm_mem m) (Nat.le_trans n1 n2)) ?_
    have e1 : (3 * 2 ^ 414) ^ a ≤ (2 ^ 416) ^ 2 := Nat.le_trans (Nat.pow_le_pow_left (show 3 * 2 ^ 414 ≤ 2 ^ 416 by rw [show (416 : Nat) = 2 + 414 from rfl, Nat.pow_add]; exact Nat.mul_le_mul_right _ (by decide)) a) (Nat.pow_le_pow_right (Nat.pow_pos (by decide)) a2)
    refine Nat.lt_of_le_of_lt e1 ?_
    rw [← Nat.pow_mul]
    exact Nat.pow_lt_pow_right (by decide) (by omega)
  · have := (So.pf kv mem).len x m
    dsimp only at this ⊢
    omega
  · have := So.kl kv mem
    omega
end At
-- V15
namespace At
open PySem PySem.Spec PyProof.Rows L2 Wk La
theorem nodup_mid {α : Type} {l r : List α} {x : α} (h : (l ++ r).Nodup) (hx : x ∉ l ++ r) : (l ++ (r ++ [x])).Nodup := by
  rw [← List.append_assoc, List.nodup_append]
  exact ⟨h, by simp, fun a ha b hb e => hx (by rw [← List.mem_singleton.mp hb, ← e]; exact ha)⟩
section
variable {P : Program} {w : World} {K : PySem.W.Frag} {mg : Str → Option Value} {base : Heap} (bi : Bi mg)
structure DtA where
  n : Nat
  Ts : List Tb
def spDet (K : PySem.W.Frag) : Sp := fun vs H Q _ => ∃ (x : DtA) (vt : V) (B : Hp), vs = [vt] ∧ Evl.Ex B H ∧ Dp K B vt (tabsD true x.n x.Ts) ∧ DtOk x.n x.Ts ∧
  ∀ d H' B', H d = none → Ext B H B' H' → OwnO d (polyO (detM x.n x.Ts)) B' H' → Q (.ref d) H'
/-- one cell of a row -/
theorem cell_step {G : Gam} {σ : L2.St} {B H H0 B0 : Hp} {De : Ends} {ps pl : Addr} {LS LL : LA} {S SL : PState} {taken : List Nat} {Pq : Poly} {q : Addr} {n a k i : Nat} {Ts : List Tb} {hO : HO}
    (g0 : G[0]? = some (.dat (tabsD true n Ts))) (g3 : G[3]? = some (.dat (.int (a : Int)))) (g5 : G[5]? = some (.val (.ref pl))) (g7 : G[7]? = some (.val (.ref q))) (g8 : G[8]? = some (.dat (.int (k : Int)))) (g9 : G[9]? = some (.tk ((isort (taken ++ [k])).map fun n : Nat => (n : Int)))) (g10 : G[10]? = some (.dat (.int (signOf taken k))))
    (e : Wk.Env K B σ G) (X : Ext B0 H0 B H) (J : DJ H0 B H ps pl LS LL S SL) (oS : OwnO ps hO B H) (mS : Mu (some hO)) (hL : LS[i]? = some (taken, q)) (hS : S[i]? = some (taken, Pq)) (ns : Ns SL) (hz : LL.length < 80000)
    (ok : AdOk ⟨sget SL (isort (taken ++ [k])), Pq, n, Ts, a, k, signOf taken k⟩)
    (kk : ∀ LL' H' B', Ext B0 H0 B' H' → Evl.Ex B B' → DJ H0 B' H' ps pl LS LL' S (detCell Ts a taken Pq SL k) → OwnO ps hO B' H' → LL'.length ≤ LL.length + 1 → Wk.Env K B' σ G → De.nx σ H') :
    tSeq (sDPut (tVar 5) (tVar 9) (tDGet2 (tVar 5) (tVar 9) tDNewT)) (tDrop (tCall (spAdded K) [] E0 (tCons (tDGet (tVar 5) (tVar 9)) (tCons (tVar 7) (tCons (tVar 0) (tCons (tVar 3) (tCons (tVar 8) (tCons (tVar 10) tNil)))))))) De σ H := by
  have nd := J.nd
  have nd1 := List.nodup_cons.mp nd
  have nd2 := List.nodup_cons.mp nd1.2
  have nd3 := List.nodup_append.mp nd2.2
  have plL : pl ∉ LL.map Prod.snd := fun m => nd2.1 (List.mem_append_right _ m)
  refine s_setd g5 g9 e X (J.fr pl (by simp)) J.ol J.dl ns nd3.2.1 plL (by omega) fun LL' ad H1 B1 X1 b1 ol1 ea dl1 hLL kp e1 => ?_
  -- what stays
  have psl : ps ≠ pl := fun z => nd1.1 (by rw [z]; simp)
  have oS1 := kp ps hO psl mS oS
  have lsne : ∀ b, b ∈ LS.map Prod.snd → b ≠ pl := fun b m z => nd2.1 (by rw [← z]; exact List.mem_append_left _ m)
  have ds1 : DS B1 H1 LS S := J.ds.imp fun b P m ob => kp b _ (lsne b m) trivial ob
  have qm : q ∈ LS.map Prod.snd := List.mem_map.mpr ⟨(taken, q), List.mem_of_getElem? hL, rfl⟩
  obtain ⟨Pq', hS', oq1⟩ := ds1.at_ hL
  rw [hS] at hS'
  cases hS'
  have am : ad ∈ LL'.map Prod.snd := (adr_mem ea).1
  -- all the addresses differ
  have nd' : (ps :: pl :: (LS.map Prod.snd ++ LL'.map Prod.snd)).Nodup ∧ ∀ b ∈ ps :: pl :: (LS.map Prod.snd ++ LL'.map Prod.snd), H0 b = none := by
    rcases hLL with rfl | ⟨rfl, hd⟩
    · exact ⟨nd, J.fr⟩
    · have fresh : ∀ {b : Addr} {u : HO}, OwnO b u B H → b ≠ ad := fun ob => ob.neN hd
      have e2 : (LL ++ [(isort (taken ++ [k]), ad)]).map Prod.snd = LL.map Prod.snd ++ [ad] := by rw [List.map_append]; rfl
      rw [e2]
      have notin : ad ∉ ps :: pl :: (LS.map Prod.snd ++ LL.map Prod.snd) := by
        intro m
        rcases List.mem_cons.mp m with z | z
        · exact fresh oS z.symm
        · rcases List.mem_cons.mp z with z | z
          · exact fresh J.ol z.symm
          · rcases List.mem_append.mp z with z | z
            · obtain ⟨_, o⟩ := J.ds.own_some z
              exact fresh o rfl
            · obtain ⟨_, o⟩ := J.dl.own_some z
              exact fresh o rfl
      refine ⟨?_, fun b m => ?_⟩
      · have := nodup_mid (l := ps :: pl :: LS.map Prod.snd) (r := LL.map Prod.snd) (x := ad) (by simpa using nd) (by simpa using notin)
        simpa using this
      · have : b ∈ ps :: pl :: (LS.map Prod.snd ++ LL.map Prod.snd) ∨ b = ad := by
          simp only [List.mem_cons, List.mem_append, List.mem_singleton, List.not_mem_nil, or_false] at m ⊢
          rcases m with z | z | z | z | z
          · exact .inl (.inl z)
          · exact .inl (.inr (.inl z))
          · exact .inl (.inr (.inr (.inl z)))
          · exact .inl (.inr (.inr (.inr z)))
          · exact .inr z
        rcases this with z | z
        · exact J.fr b z
        · rw [z]; exact Evl.fresh_back X.ex hd
  obtain ⟨nd', fr'⟩ := nd'
  have md1 := List.nodup_cons.mp nd'
  have md2 := List.nodup_cons.mp md1.2
  have md3 := List.nodup_append.mp md2.2
  have aq : ad ≠ q := fun z => md3.2.2 q qm ad am z.symm
  have oa := dl1.adr ea
  rw [(sget_sput ns (P := sget SL (isort (taken ++ [k]))) (Q := [])).1] at oa
  -- the call
  obtain ⟨vt, at0, rt0⟩ := env_dat e1 g0
  obtain ⟨va, at3, rt3⟩ := env_dat e1 g3
  obtain ⟨vk, at8, rt8⟩ := env_dat e1 g8
  obtain ⟨vs, at10, rt10⟩ := env_dat e1 g10
  obtain ⟨qk, ek, kq⟩ := env_dat e1 g9
  refine ⟨.ref pl, env_dat e1 g5, .ref qk, ek, pl, .ref ad, rfl, ?_, .ref q, env_dat e1 g7, vt, at0, va, at3, vk, at8, vs, at10, ?_⟩
  · have := DGet.t (k := encK (isort (taken ++ [k]))) ol1.2 (b := qk) (by rw [encK_V]; exact X1.le qk _ kq)
    rw [adr_get, ea] at this
    exact this
  rw [dp_int rt3, dp_int rt8, dp_int rt10]
  refine ⟨_, ad, q, vt, B1, rfl, X1.le, oa, oq1, aq, rt0, ok, fun H2 B2 Y oa2 oq2 => ?_⟩
  dsimp only at oa2 oq2
  have X2 := X1.over (fun b hb => by
    rcases List.mem_cons.mp hb with z | z
    · rw [z]; exact fr' ad (List.mem_cons_of_mem _ (List.mem_cons_of_mem _ (List.mem_append_right _ am)))
    · rw [List.mem_singleton.mp z]; exact fr' q (List.mem_cons_of_mem _ (List.mem_cons_of_mem _ (List.mem_append_left _ qm)))) Y
  have keepO : ∀ {b : Addr} {u : HO}, b ≠ ad → b ≠ q → Mu (some u) → OwnO b u B1 H1 → OwnO b u B2 H2 := fun h1 h2 m o => o.over m (by
    intro z
    rcases List.mem_cons.mp z with z | z
    · exact h1 z
    · exact h2 (List.mem_singleton.mp z)) Y
  have pne : ∀ b, b ∈ LS.map Prod.snd ++ LL'.map Prod.snd → ps ≠ b ∧ pl ≠ b := fun b m => ⟨fun z => md1.1 (by rw [z]; exact List.mem_cons_of_mem _ m), fun z => md2.1 (by rw [z]; exact m)⟩
  have adin := List.mem_append_right (LS.map Prod.snd) am
  have qin := List.mem_append_left (LL'.map Prod.snd) qm
  refine kk LL' H2 B2 X2 (b1.trans Y.bb) ⟨keepO (pne ad adin).2 (pne q qin).2 trivial ol1, ?_, ?_, nd', fr'⟩ (keepO (pne ad adin).1 (pne q qin).1 mS oS1) ?_ (e1.mono Y.bb)
  · have := dl1.put (P := addedM (sget SL (isort (taken ++ [k]))) Pq Ts a k (signOf taken k)) (B' := B2) (H' := H2) ea (ns_sput ns) md3.2.1 (fun b P m ne ob => keepO ne (fun z => md3.2.2 q qm b m z.symm) trivial ob) oa2
    rw [(sget_sput ns).2] at this
    exact this
  · exact ds1.imp fun b P m ob => by
      by_cases z : b = q
      · subst z
        have : polyO P = polyO Pq := Option.some.inj (ob.2.symm.trans oq1.2)
        rw [this]
        exact oq2
      · exact keepO (fun z2 => md3.2.2 b m ad am z2) z trivial ob
  · rcases hLL with rfl | ⟨rfl, _⟩
    · omega
    · rw [List.length_append]
      simp
end
end At
-- V16
namespace At
open PySem PySem.Spec PyProof.Rows L2 Wk La
theorem cell_len {Ts : List Tb} {a k : Nat} {taken : List Nat} {Pq : Poly} {later : PState} : (detCell Ts a taken Pq later k).length ≤ later.length + 1 := by
  unfold detCell sput
  split
  · rw [List.length_map]; omega
  · rw [List.length_append]; simp
theorem cells_len {Ts : List Tb} {a : Nat} {taken : List Nat} {Pq : Poly} : ∀ {ks : List Nat} {later : PState}, (ks.foldl (detCell Ts a taken Pq) later).length ≤ later.length + ks.length
  | [], _ => Nat.le_refl _
  | k :: ks, later => by
    rw [List.foldl_cons, List.length_cons]
    have h1 := cells_len (Ts := Ts) (a := a) (taken := taken) (Pq := Pq) (ks := ks) (later := detCell Ts a taken Pq later k)
    have h2 := cell_len (Ts := Ts) (a := a) (taken := taken) (Pq := Pq) (later := later) (k := k)
    omega
theorem row_len {n a : Nat} {Ts : List Tb} : ∀ {S later : PState}, (S.foldl (fun later kv => (ksOf n kv.1).foldl (detCell Ts a kv.1 kv.2) later) later).length ≤ later.length + S.length * n
  | [], _ => by simp
  | kv :: S, later => by
    rw [List.foldl_cons, List.length_cons]
    have h1 := row_len (n := n) (a := a) (Ts := Ts) (S := S) (later := (ksOf n kv.1).foldl (detCell Ts a kv.1 kv.2) later)
    have h2 := cells_len (Ts := Ts) (a := a) (taken := kv.1) (Pq := kv.2) (ks := ksOf n kv.1) (later := later)
    have h3 := ks_len (n := n) (taken := kv.1)
    rw [Nat.succ_mul]
    omega
theorem states_len {n : Nat} {Ts : List Tb} (hn : n ≤ 3) : ∀ a, (detStates n Ts a).length ≤ 3 ^ a
  | 0 => Nat.le_refl 1
  | a + 1 => by
    rw [detStates_succ, Nat.pow_succ]
    have h1 : (detRow n Ts a (detStates n Ts a)).length ≤ ([] : PState).length + (detStates n Ts a).length * n := row_len
    have h2 := states_len (Ts := Ts) hn a
    have h3 : (detStates n Ts a).length * n ≤ 3 ^ a * 3 := Nat.mul_le_mul h2 hn
    simp only [List.length_nil] at h1
    omega
theorem st_at {L : LA} {n : Nat} {k : List Key} {v : V} (h : (encP V.ref L)[n]? = some (k, v)) : ∃ kv, L[n]? = some kv ∧ k = encK kv.1 ∧ v = .ref kv.2 := by
  unfold encP at h
  rw [List.getElem?_map] at h
  cases e : L[n]? with
  | none => rw [e] at h; cases h
  | some kv => rw [e] at h; cases h; exact ⟨kv, rfl, rfl, rfl⟩
theorem s_disp {K : PySem.W.Frag} {G : Gam} {i : Nat} {σ : L2.St} {B H : Hp} {De : Ends} (e : Wk.Env K B σ G) (eb : Evl.Ex B H)
    (k : ∀ ps p1 σ' H', H ps = none → H p1 = none → ps ≠ p1 → Ext B H B H' → OwnO ps (stO [([], p1)]) B H' → OwnO p1 (polyO [([], 1)]) B H' → Wk.Env K B σ' (G.set i (.val (.ref ps))) → De.nx σ' H') : tAsg (tDisp1 (tTup tNil) (tDisp1 (tTup tNil) (tC (.int 1)))) (gName i) De σ H := by
  intro ps hps
  have bps : B ps = none := Evl.fresh_back eb hps
  have X1 : Ext B H B (L2.upd H ps (.dT [])) := Ext.hide eb hps
  have o1 : OwnO ps (.dT []) B (L2.upd H ps (.dT [])) := ⟨bps, upd_same⟩
  generalize L2.upd H ps (.dT []) = H1 at X1 o1
  refine ⟨Evl.sz_of (n := 0) (by decide), fun l hl => ?_⟩
  have x2 : Ext B H1 B (L2.upd H1 l (.tup [])) := Ext.hide X1.le hl
  have hl2 : L2.upd H1 l (.tup []) l = some (.tup []) := upd_same
  have o2 := o1.ext trivial x2
  have X2 := X1.trans x2
  generalize L2.upd H1 l (.tup []) = H2 at x2 hl2 o2 X2
  intro p1 hp1
  have x3 : Ext B H2 B (L2.upd H2 p1 (.dT [])) := Ext.hide X2.le hp1
  have q3 : OwnO p1 (.dT []) B (L2.upd H2 p1 (.dT [])) := ⟨Evl.fresh_back X2.le hp1, upd_same⟩
  have n3 : H p1 = none := Evl.fresh_back X2.ex hp1
  have ne : ps ≠ p1 := o2.neN hp1
  have o3 := o2.ext trivial x3
  have X3 := X2.trans x3
  generalize L2.upd H2 p1 (.dT []) = H3 at x3 q3 o3 X3
  refine ⟨Evl.sz_of (n := 0) (by decide), fun m hm => ?_⟩
  have x4 : Ext B H3 B (L2.upd H3 m (.tup [])) := Ext.hide X3.le hm
  have hm4 : L2.upd H3 m (.tup []) m = some (.tup []) := upd_same
  have o4 := o3.ext trivial x4
  have q4 := q3.ext trivial x4
  have X4 := X3.trans x4
  have hl4 := x4.ex l _ (x3.ex l _ hl2)
  generalize L2.upd H3 m (.tup []) = H4 at x4 hm4 o4 q4 X4 hl4
  refine ⟨m, [], .int 1, rfl, hm4, q4.2, ?_⟩
  have lp : l ≠ p1 := fun z => by rw [z, q4.2] at hl4; cases hl4
  obtain ⟨X5, q5⟩ := q4.put (o' := .dT [([], .int 1)]) X4 n3
  have o5 : OwnO ps (.dT []) B (L2.upd H4 p1 (.dT [([], .int 1)])) := o4.keep ne
  have hl5 : L2.upd H4 p1 (.dT [([], .int 1)]) l = some (.tup []) := by rw [upd_ne lp]; exact hl4
  generalize L2.upd H4 p1 (.dT [([], .int 1)]) = H5 at X5 q5 o5 hl5
  refine ⟨l, [], .ref p1, rfl, hl5, o5.2, ?_⟩
  obtain ⟨X6, o6⟩ := o5.put (o' := .dT [([], .ref p1)]) X5 hps
  exact k ps p1 _ _ hps n3 ne X6 o6 (q5.keep (fun z => ne z.symm)) (e.set rfl)
section
variable {P : Program} {w : World} {K : PySem.W.Frag} {mg : Str → Option Value} {base : Heap} (bi : Bi mg)
include bi in
theorem ok_determinant_of {f : Addr} {fd : FuncData} (F : L2.Fun K "determinant_of" "determinant_of" st_determinant_of f fd) (c_added : Wk.Cal P w K mg base 1 "added" (spAdded K)) : FnOk P w K mg base CX0 2 f fd ["tables"] (spDet K) := by
  refine F.ok sc_determinant_of (fun vs H Q E h => ?_) (fun cdv A outer s H vs Q E hr h => ⟨_, (pss_cons (ps_set (i := 1) sc_determinant_of.nd rfl (by first | exact Or.inl rfl | exact Or.inr rfl) (pe_callB (r := rLenSq K) call_len_seq (by rfl) bi.len (by decide +kernel) (pa_cons (pe_ix (r := rIx K) ix_seq (pv 0) pe_int (fun _ _ => rfl)) pa_nil)))
      (pss_cons (ps_set (i := 2) sc_determinant_of.nd rfl (by first | exact Or.inl rfl | exact Or.inr rfl) (pe_disp1 (Nat.lt_of_le_of_lt (Nat.le_add_right _ _) (hu_of hr)) (pe_tup pa_nil) (pe_disp1 (Nat.lt_of_le_of_lt (Nat.le_add_right _ _) (hu_of hr)) (pe_tup pa_nil) pe_int)))
      (pss_cons (ps_for PassesOwn.never (by rfl) (pi_range1 (by rfl) bi.range (pa_cons (pv 1) pa_nil)) (pg_name (i := 3) sc_determinant_of.nd rfl (by first | exact Or.inl rfl | exact Or.inr rfl)) (pss_cons (ps_set (i := 5) sc_determinant_of.nd rfl (by first | exact Or.inl rfl | exact Or.inr rfl) pe_dnewT)
      (pss_cons (ps_lock (ps_for PassesOwn.never (by rfl) (pi_itemsT (pv 2)) (pg_tup (by rfl) (pgs_cons (pg_name (i := 6) sc_determinant_of.nd rfl (by first | exact Or.inl rfl | exact Or.inr rfl)) (pgs_cons (pg_name (i := 7) sc_determinant_of.nd rfl (by first | exact Or.inl rfl | exact Or.inr rfl)) pgs_nil))) (pss_one (ps_for PassesOwn.never (by rfl) (pi_sq (pe_lc (own := [("k", 8)]) (wi := _) (g := gName 8) (by rfl) sc_determinant_of.nd (pi_range1 (by rfl) bi.range (pa_cons (pv 1) pa_nil)) (blkOk_by (N := N_determinant_of) (sc := (defScope st_determinant_of)) (by decide +kernel)) (fun _ _ _ _ _ => (pg_name (i := 8) sc_determinant_of.nd rfl (by first | exact Or.inl rfl | exact Or.inr rfl))) (fun _ _ _ _ _ => pts_one (pt_cmpR (r := rIn K true) op_notIn_seq (pv 8) (pv 6) (by rfl))) (fun _ _ _ _ _ => (pv 8)))) (pg_name (i := 8) sc_determinant_of.nd rfl (by first | exact Or.inl rfl | exact Or.inr rfl)) (pss_cons (ps_set (i := 9) sc_determinant_of.nd rfl (by first | exact Or.inl rfl | exact Or.inr rfl) (pe_callTy (r := rTupOf K) call_tuple_of (by rfl) bi.tuple (by decide +kernel) (pa_cons (pe_callB (r := rSortedI K) cr_sortedI (by rfl) bi.sorted (by decide +kernel) (pa_cons (pe_lst (StX.pa_star (pv 6) (pa_cons (pv 8) pa_nil))) pa_nil)) pa_nil)))
      (pss_cons (ps_set (i := 10) sc_determinant_of.nd rfl (by first | exact Or.inl rfl | exact Or.inr rfl) (pe_ifExp (pt_cmpR (r := rEqD K) (op_eqD hr.units) (pe_op op_modN (pe_callB (r := rLenSq K) call_len_seq (by rfl) bi.len (by decide +kernel) (pa_cons (pe_lc (own := [("other", 13)]) (wi := iSq K _) (g := gName 13) (by rfl) sc_determinant_of.nd (pi_sq (pv 6)) (blkOk_by (N := N_determinant_of) (sc := (defScope st_determinant_of)) (by decide +kernel)) (fun _ _ _ _ _ => (pg_name (i := 13) sc_determinant_of.nd rfl (by first | exact Or.inl rfl | exact Or.inr rfl))) (fun _ _ _ _ _ => pts_one (pt_cmpR op_gt (pv 13) (pv 8) (nomark _))) (fun _ _ _ _ _ => (pv 13))) pa_nil)) pe_int) pe_int (nomark _)) (pe_un un_neg pe_int) pe_int))
      (pss_cons (ps_dput (hu_of hr) (pv 5) (pv 9) (pe_dget2 (hu_of hr) (pv 5) (pv 9) pe_dnewT ⟨by rfl, by rfl, by rfl, by rfl⟩) (by rfl))
      (pss_one (ps_expr (pe_cal c_added hr (by decide) (by rfl) (pa_cons (pe_dget (hu_of hr) (pv 5) (pv 9) (fun _ _ => rfl)) (pa_cons (pv 7) (pa_cons (pv 0) (pa_cons (pv 3) (pa_cons (pv 8) (pa_cons (pv 10) pa_nil))))))))))))))))
      (pss_one (ps_set (i := 2) sc_determinant_of.nd rfl (by first | exact Or.inl rfl | exact Or.inr rfl) (pv 5))))))
      (pss_cons (ps_set (i := 4) sc_determinant_of.nd rfl (by first | exact Or.inl rfl | exact Or.inr rfl) (pe_dget (hu_of hr) (pv 2) (pe_tupRg (by rfl) (by rfl) bi.tuple (prg_1 (by rfl) bi.range (pv 1))) (fun _ _ => rfl)))
      (pss_one (ps_ret (pe_lock (pe_dcT (own := [("names", 11), ("number", 12)]) (wi := iItemsT _) (g := gPair K 11 12) (by rfl) (Nat.lt_of_le_of_lt (Nat.le_add_right _ _) (hu_of hr)) sc_determinant_of.nd (pi_itemsT (pv 4)) (blkOk_by (N := N_determinant_of) (sc := (defScope st_determinant_of)) (by decide +kernel)) (fun _ _ _ _ _ => (pg_tup (by rfl) (pgs_cons (pg_name (i := 11) sc_determinant_of.nd rfl (by first | exact Or.inl rfl | exact Or.inr rfl)) (pgs_cons (pg_name (i := 12) sc_determinant_of.nd rfl (by first | exact Or.inl rfl | exact Or.inr rfl)) pgs_nil)))) (fun _ _ _ _ _ => pts_one (pt_cmpR (r := rNeD K) (op_neD hr.units) (pv 12) pe_int (nomark _))) (fun _ _ _ _ _ => (pv 11)) (fun _ _ _ _ _ => (pv 12)))))))))), ?_⟩)
  · obtain ⟨x, vt, B, rfl, _⟩ := h
    rfl
  obtain ⟨⟨n, Ts⟩, vt, B, rfl, eb, rt, ok, k⟩ := h
  dsimp only at rt ok k ⊢
  have n3 : n ≤ 3 := by have := ok.nn; omega
  have t0 := ok.t0
  have e0 := env_ents (K := K) (B := B) (N := N_determinant_of) (.cons (ok_dat rt) .nil) (show 1 ≤ 14 by decide)
  refine s_asg (ev_size (ev_var rfl) t0) e0 eb fun σ1 H1 B1 x1 e1 => ?_
  refine s_disp e1 x1.le fun ps0 p10 σ2 H2 hps hp1 ne0 x2 os0 op0 e2 => ?_
  have X2 := x1.trans x2
  have f1 : H ps0 = none := Evl.fresh_back x1.ex hps
  have f2 : H p10 = none := Evl.fresh_back x1.ex hp1
  let G0 : Gam := [.dat (tabsD true n Ts), .dat (.int (n : Int)), .no, .no, .no, .no, .no, .no, .no, .no, .no, .no, .no, .no]
  refine s_forS (n := (n : Int).toNat) (B0 := B) (H0 := H) (Gi := fun _ => G0) (Φ := fun _ i σ' B' H' => ∃ ps LS, σ'[2]? = some (some (.ref ps)) ∧ DI H B' H' ps LS (detStates n Ts i)) (w_rng1 (ea_cons (ev_var rfl) ea_nil) ⟨by omega, by omega⟩) e2 X2 (fun B3 H3 x3 => ⟨⟨rfl, rfl, trivial, trivial, trivial, trivial, trivial, trivial, trivial, trivial, trivial, trivial, trivial, trivial, trivial⟩, ps0, [([], p10)], (by exact env_dat e2 (i := 2) (t := .val (.ref ps0)) rfl), ?_⟩) (fun B3 a σ3 σ4 B4 H4 H5 ha X4 b4 ⟨ps, LS, s2, D⟩ x5 keep e4 => ?_) (fun B3 σ4 B4 H4 e4 X4 b4 ⟨ps, LS, s2, D⟩ => ?_)
  · refine ⟨os0.ext trivial x3, .cons (op0.ext trivial x3) .nil, by simp [ne0], fun b m => ?_⟩
    simp at m
    rcases m with z | z
    · rw [z]; exact f1
    · rw [z]; exact f2
  · have ha : a < n := by omega
    have s2' : σ4[2]? = some (some (.ref ps)) := by rw [keep 2 (by decide)]; exact s2
    have e5 := e4.know s2'
    have D5 := D.ext x5
    refine s_dnew e5 x5.le fun pl σ6 H6 hpl x6 ol6 e6 => ?_
    have x56 := x5.trans x6
    have D6 := D5.ext x6
    have X6 := X4.trans x56
    have fpl : H pl = none := Evl.fresh_back (X4.trans x5).ex hpl
    have nd1 := List.nodup_cons.mp D6.nd
    have plps : pl ≠ ps := (D5.own.neN hpl).symm
    have plLS : pl ∉ LS.map Prod.snd := fun m => by
      obtain ⟨_, o⟩ := D5.ds.own_some m
      exact o.neN hpl rfl
    have lenS := D6.ds.len
    refine s_lock e6 X6 (D6.fr ps (by simp)) D6.own fun od X7 op7 => ?_
    have J7 : DJ H B4 (L2.upd H6 ps (.frz od (.dT (encP V.ref LS)))) ps pl LS [] (detStates n Ts a) (laterI n Ts a (detStates n Ts a) 0) := by
      refine ⟨ol6.keep plps, .nil, D6.ds.imp fun b P m o => o.keep fun z => nd1.1 (by rw [← z]; exact m), ?_, fun b m => ?_⟩
      · rw [List.map_nil, List.append_nil, List.nodup_cons]
        refine ⟨fun m => ?_, List.nodup_cons.mpr ⟨plLS, nd1.2⟩⟩
        rcases List.mem_cons.mp m with z | z
        · exact plps z.symm
        · exact nd1.1 z
      · rw [List.map_nil, List.append_nil] at m
        rcases List.mem_cons.mp m with z | z
        · rw [z]; exact D6.fr ps (by simp)
        · rcases List.mem_cons.mp z with z | z
          · rw [z]; exact fpl
          · exact D6.fr b (List.mem_cons_of_mem _ z)
    generalize L2.upd H6 ps (.frz od (.dT (encP V.ref LS))) = H7 at X7 op7 J7
    let G1 : Gam := [.dat (tabsD true n Ts), .dat (.int (n : Int)), .val (.ref ps), .dat (.int (a : Int)), .no, .val (.ref pl), .no, .no, .no, .no, .no, .no, .no, .no]
    refine s_items (i := 2) (kvs := encP V.ref LS) (od := od) rfl e6 X7 op7 (Gi := fun _ => G1) (Φ := fun i B' H' => ∃ LL, DJ H B' H' ps pl LS LL (detStates n Ts a) (laterI n Ts a (detStates n Ts a) i) ∧ LL.length ≤ i * 9) ⟨⟨rfl, rfl, rfl, rfl, trivial, rfl, trivial, trivial, trivial, trivial, trivial, trivial, trivial, trivial, trivial⟩, [], J7, by simp⟩ (fun i B H B' H' ⟨LL, J, hl⟩ x => ⟨LL, J.ext x, hl⟩) (fun i ky v nm σ8 B8 H8 hkv X8 b8 op8 ⟨LL, J8, hl8⟩ hnm e8 => ?_) (fun σ8 B8 H8 e8 X8 b8 op8 ⟨LL, J8, hl8⟩ => ?_)
    · obtain ⟨⟨taken, q⟩, hL, rfl, rfl⟩ := st_at hkv
      dsimp only at e8 hnm
      obtain ⟨Pq, hS, oq⟩ := J8.ds.at_ hL
      have e9 := e8.re (i := 6) (v := .ref nm) (t := .tk (taken.map fun n : Nat => (n : Int))) rfl ⟨nm, rfl, by rw [← encK_V]; exact hnm⟩
      let G2 : Gam := [.dat (tabsD true n Ts), .dat (.int (n : Int)), .val (.ref ps), .dat (.int (a : Int)), .no, .val (.ref pl), .tk (taken.map fun n : Nat => (n : Int)), .val (.ref q), .no, .no, .no, .no, .no, .no]
      have iS := (List.getElem?_eq_some_iff.mp hS).1
      have ksl := Nat.le_trans (ks_len (n := n) (taken := taken)) n3
      have tl : taken.length ≤ 100000 := by
        have := (states_ok n3 ok.t9 ok.T a (by omega)).kl _ (List.mem_of_getElem? hS)
        dsimp only at this
        omega
      have ksat : ∀ j, j < ((ksOf n taken).map fun n : Nat => PyData.int (n : Int)).length → ((ksOf n taken).map fun n : Nat => PyData.int (n : Int))[j]? = some (.int (((ksOf n taken).getD j 0 : Nat) : Int)) := fun j hj => by
        rw [List.length_map] at hj
        rw [List.getElem?_map, List.getD_eq_getElem?_getD, List.getElem?_eq_getElem hj]
        rfl
      refine s_for (n := ((ksOf n taken).map fun n : Nat => PyData.int (n : Int)).length) (B0 := B) (H0 := H) (Gi := fun _ => G2) (Φ := fun _ j B' H' => Evl.Ex B8 B' ∧ OwnO ps (.frz od (.dT (encP V.ref LS))) B' H' ∧ ∃ LL, DJ H B' H' ps pl LS LL (detStates n Ts a) (laterJ n Ts a (detStates n Ts a) i (taken, Pq) j) ∧ LL.length ≤ i * 9 + j) (w_sq (k := true) (item := fun j => .int (((ksOf n taken).getD j 0 : Nat) : Int)) ((en_lc (p := fun j => decide (j ∉ taken)) (f := fun j => .int (j : Int)) (w_rng1 (ea_cons (ev_var rfl) ea_nil) ⟨by omega, by omega⟩) (by omega) (by decide) (fun j hj => (et_test (ev_notIn (k := false) (ns := taken.map fun n : Nat => (n : Int)) (ev_var rfl) (ev_tkD rfl))).cast ?_) (fun j hj _ => ev_var rfl)).dat.cast ?_) ksat) e9 X8 (fun B9 H9 x9 => ⟨⟨rfl, rfl, rfl, rfl, trivial, rfl, rfl, rfl, trivial, trivial, trivial, trivial, trivial, trivial, trivial⟩, x9.bb, op8.ext trivial x9, LL, J8.ext x9, hl8⟩) (fun B9 j σ10 B10 H10 H11 hj X10 b10 ⟨c10, op10, LL2, J10, hl10⟩ x11 e10 => ?_) (fun B9 σ10 B10 H10 e10 X10 ⟨c10, op10, LL2, J10, hl10⟩ => ?_)
      · have : decide ((j : Int) ∈ taken.map fun n : Nat => (n : Int)) = decide (j ∈ taken) := by
          refine decide_eq_decide.mpr ⟨fun m => ?_, fun m => List.mem_map.mpr ⟨j, m, rfl⟩⟩
          obtain ⟨x, hx, ex⟩ := List.mem_map.mp m
          have : x = j := by omega
          rw [← this]
          exact hx
        rw [this, decide_not]
      · unfold picked ksOf
        rfl
      · rw [List.length_map] at hj
        have hk : (ksOf n taken)[j]? = some ((ksOf n taken).getD j 0) := by rw [List.getD_eq_getElem?_getD, List.getElem?_eq_getElem hj]; rfl
        generalize (ksOf n taken).getD j 0 = kc at hk e10
        obtain ⟨ad, ns, _, _⟩ := ok.ad ha hS hk
        dsimp only at ad ns
        have X11 := X10.trans x11
        refine s_asg (ev_tupK (en_sortI (l := taken ++ [kc]) (ea_cons ((en_lst (ea_star (k := false) (ev_tkD rfl) (ea_cons (ev_var rfl) ea_nil)) (by
          rw [List.length_append, List.length_map, List.length_map]
          simp only [List.length_singleton]
          have := (states_ok n3 ok.t9 ok.T a (by omega)).kl _ (List.mem_of_getElem? hS)
          dsimp only at this
          omega)).dat.cast (by rw [List.map_append, List.map_append]; rfl)) ea_nil))) e10 X11.le fun σ12 H12 B12 x12 e12 => ?_
        have tkL : ((taken.map fun n : Nat => (n : Int)).map PyData.int).length = taken.length := by rw [List.length_map, List.length_map]
        have tkat : ∀ i, i < ((taken.map fun n : Nat => (n : Int)).map PyData.int).length → ((taken.map fun n : Nat => (n : Int)).map PyData.int)[i]? = some (.int ((taken.getD i 0 : Nat) : Int)) := fun i hi => by
          rw [tkL] at hi
          rw [List.getElem?_map, List.getElem?_map, List.getD_eq_getElem?_getD, List.getElem?_eq_getElem hi]
          rfl
        refine s_asg (t := .dat (.int (signOf taken kc))) (ev_if (et_test (ev_eqI (x := (((taken.filter fun o => decide (o > kc)).length % 2 : Nat) : Int)) ((ev_fmod (x := ((taken.filter fun o => decide (o > kc)).length : Int)) ((ev_cb (ea_cons ((en_lc (p := fun j => decide (taken.getD j 0 > kc)) (f := fun j => .int ((taken.getD j 0 : Nat) : Int)) (w_sq (k := false) (item := fun j => .int ((taken.getD j 0 : Nat) : Int)) (ev_tkD rfl) tkat) (by rw [tkL]; exact tl) (by decide) (fun j hj => (et_test (ev_gt (ev_var rfl) (ev_var rfl))).cast (decide_eq_decide.mpr (by omega))) (fun j hj _ => ev_var rfl)).dat.cast (b := .list ((taken.filter fun o => decide (o > kc)).map fun o : Nat => PyData.int (o : Int))) (by rw [tkL, picked_list (h := fun o => decide (o > kc)) (f := fun o : Nat => PyData.int (o : Int))])) ea_nil) (cv_len (k := true))).cast (by rw [List.length_map])) ev_int (by decide)).cast (by rw [show (2 : Int) = ((2 : Nat) : Int) from rfl, stp_nat])) ev_int)) (fun q => (ev_neg ev_int).cast ?_) fun q => ev_int.cast ?_) e12 x12.le fun σ13 H13 B13 x13 e13 => ?_
        · have q := eq_of_beq q
          have q : (taken.filter fun o => decide (o > kc)).length % 2 = 1 := by omega
          unfold signOf
          rw [if_pos q]
        · have q : ¬ (taken.filter fun o => decide (o > kc)).length % 2 = 1 := fun z => by rw [z] at q; cases q
          unfold signOf
          rw [if_neg q]
        · have x1113 := (x11.trans x12).trans x13
          refine cell_step (De := _) (taken := taken) (k := kc) (i := i) rfl rfl rfl rfl rfl rfl rfl e13 (X10.trans x1113) (J10.ext x1113) (op10.ext trivial x1113) trivial hL hS ns (by
            have h1 := states_len (Ts := Ts) n3 a
            have h2 : 3 ^ a ≤ 3 ^ 3 := Nat.pow_le_pow_right (by decide) (by omega)
            have h3 : (3 : Nat) ^ 3 = 27 := by decide
            omega) ad fun LL3 H14 B14 X14 b14 J14 op14 hl14 e14 => ?_
          refine ⟨B14, e14.le ?_, X14, (b10.trans x1113.bb).trans b14, (c10.trans x1113.bb).trans b14, op14, LL3, ?_, by omega⟩
          · exact ⟨rfl, rfl, rfl, rfl, trivial, rfl, rfl, rfl, trivial, trivial, trivial, trivial, trivial, trivial, trivial⟩
          · rw [laterJ_succ hk]
            exact J14
      · dsimp only at e10 ⊢
        rw [List.length_map] at J10 hl10
        refine ⟨B10, e10.le ?_, X10, b8.trans c10, op10, LL2, ?_, by omega⟩
        · exact ⟨rfl, rfl, rfl, rfl, trivial, rfl, trivial, trivial, trivial, trivial, trivial, trivial, trivial, trivial, trivial⟩
        · rw [laterI_succ hS]
          exact J10
    · rw [encP_len, lenS, laterI_all, ← detStates_succ] at J8
      obtain ⟨X9, op9⟩ := op8.unlock X8 (D6.fr ps (by simp))
      have md1 := List.nodup_cons.mp J8.nd
      have md2 := List.nodup_cons.mp md1.2
      have md3 := List.nodup_append.mp md2.2
      refine ⟨op8.2, ?_⟩
      have D9 : DI H B8 (L2.upd H8 ps (.dT (encP V.ref LS))) pl LL (detStates n Ts (a + 1)) := ⟨J8.ol.keep plps, J8.dl.imp fun b P m o => o.keep fun z => md1.1 (by rw [← z]; exact List.mem_cons_of_mem _ (List.mem_append_right _ m)), List.nodup_cons.mpr ⟨fun m => md2.1 (List.mem_append_right _ m), md3.2.1⟩, fun b m => J8.fr b (by
        rcases List.mem_cons.mp m with z | z
        · rw [z]; simp
        · exact List.mem_cons_of_mem _ (List.mem_cons_of_mem _ (List.mem_append_right _ z)))⟩
      generalize L2.upd H8 ps (.dT (encP V.ref LS)) = H9 at X9 op9 D9
      dsimp only
      refine s_asg (ev_val (i := 5) rfl) e8 X9.le fun σ10 H10 B10 x10 e10 => ?_
      refine ⟨B10, e10.le ?_, X9.trans x10, (b4.trans x56.bb).trans (b8.trans x10.bb), pl, LL, (by exact env_dat e10 (i := 2) (t := .val (.ref pl)) rfl), D9.ext x10⟩
      exact ⟨rfl, rfl, trivial, trivial, trivial, trivial, trivial, trivial, trivial, trivial, trivial, trivial, trivial, trivial, trivial⟩
  · dsimp only at e4 ⊢
    have e5 := e4.know s2
    have ek : (detStates n Ts n).map Prod.fst = [List.range n] := by
      rcases ok.nn with rfl | rfl | rfl
      · rfl
      · rfl
      · rw [detStates_succ, detStates_succ, detStates_succ, show detStates 3 Ts 0 = [([], [([], 1)])] from rfl, row30, row31, row32]
        rfl
    have D4 : DI H B4 H4 ps LS (detStates n Ts n) := D
    obtain ⟨ad, ea⟩ : ∃ ad, adr LS (List.range n) = some ad := by
      cases ea : adr LS (List.range n) with
      | some ad => exact ⟨ad, rfl⟩
      | none =>
        exfalso
        apply adr_none ea
        rw [D4.ds.keys, ek]
        exact List.mem_singleton.mpr rfl
    have oa := D4.ds.adr ea
    obtain ⟨vn, sn, rn⟩ := env_dat e5 (i := 1) (t := .dat (.int (n : Int))) rfl
    refine ⟨.ref ps, s2, vn, sn, (n : Int), dp_int rn, RgOk.of_le (by omega) (by omega) (by omega) (by omega), fun q hq => ?_⟩
    have x6 : Ext B4 H4 (L2.upd B4 q (.tup (rgV 0 n))) (L2.upd H4 q (.tup (rgV 0 n))) := Ext.new X4.le hq
    have hq6 : L2.upd H4 q (.tup (rgV 0 (n : Int))) q = some (.tup (rgV 0 n)) := upd_same
    have D6 := D4.ext x6
    have oa6 := oa.ext trivial x6
    have e6 := e5.mono x6.bb
    have X6 := X4.trans x6
    generalize L2.upd H4 q (.tup (rgV 0 (n : Int))) = H6 at x6 hq6 D6 oa6 X6
    generalize L2.upd B4 q (.tup (rgV 0 (n : Int))) = B6 at x6 D6 oa6 e6 X6
    have er : (encK (List.range n)).map kV = rgV 0 n := by
      rw [encK_V]
      unfold rgV
      rw [List.map_map, show ((n : Int) - 0).toNat = n by omega]
      apply List.map_congr_left
      intro i _
      show V.int _ = V.int _
      rw [Int.zero_add]
    refine ⟨ps, .ref ad, rfl, ?_, ?_⟩
    · have := DGet.t (k := encK (List.range n)) D6.own.2 (b := q) (by rw [er]; exact hq6)
      rw [adr_get, ea] at this
      exact this
    · have e7 := e6.set (i := 4) (v := .ref ad) (t := .val (.ref ad)) rfl
      have na : H ad = none := D6.fr ad (List.mem_cons_of_mem _ (adr_mem ea).1)
      obtain ⟨P0, pe, pf⟩ : ∃ P0, sget (detStates n Ts n) (List.range n) = P0 ∧ PF Ts.length n P0 := ⟨_, rfl, sget_all (p := PF Ts.length n) (states_ok n3 ok.t9 ok.T n (Nat.le_refl _)).pf pf_nil⟩
      have pl : P0.length ≤ 27 ^ n := by
        rw [← pe]
        exact Nat.le_trans (tot_get (f := lenP) rfl) (states_ok n3 ok.t9 ok.T n (Nat.le_refl _)).len
      have p3 : 27 ^ n ≤ 27 ^ 3 := Nat.pow_le_pow_right (by decide) n3
      have p4 : (27 : Nat) ^ 3 = 19683 := by decide
      have ed : detM n Ts = dropZ P0 := by unfold detM; rw [pe]
      rw [pe] at oa6
      dsimp only [tRet]
      refine e_pick (i := 4) (g := pickG) (kvs := encP V.int P0) rfl e7 X6 na oa6 (by rw [encP_len]; omega) (encP_nd pf.nd) ⟨by decide, by decide⟩ (fun ky vv q m => ?_) rfl rfl (by decide) ⟨show 11 < 14 by decide, show 12 < 14 by decide⟩ fun d H8 B8 hd X8 b8 o8 od8 kp8 => ?_
      · obtain ⟨m', hm, en⟩ := List.getElem_of_mem m
        obtain ⟨kv, _, rfl, rfl⟩ := poly_at (show (encP V.int P0)[m']? = some (ky, vv) by rw [List.getElem?_eq_getElem hm, en])
        exact et_test (ev_neI (ev_valI rfl) ev_int)
      · rw [encP_pick, ← ed] at od8
        exact k d H8 B8 (Evl.fresh_back X6.ex hd) X8 od8
end
end At
-- V17
namespace At
open PySem PySem.Spec PyProof.Rows L2 Wk La
abbrev st_regular_sum : Stmt := topS 43
abbrev N_regular_sum : List Str := ["tables", "power", "polynomial", "some", "at"]
theorem sc_regular_sum : FnScope N_regular_sum ["tables"] (defScope st_regular_sum) := ⟨rfl, rfl, rfl, by decide +kernel, rfl, by decide +kernel, by decide +kernel⟩
abbrev st_change_between : Stmt := topS 44
abbrev N_change_between : List Str := ["tables", "others", "found"]
theorem sc_change_between : FnScope N_change_between ["tables", "others"] (defScope st_change_between) := ⟨rfl, rfl, rfl, by decide +kernel, rfl, by decide +kernel, by decide +kernel⟩
def optTab (n : Nat) : Option Tb → D
  | none => .none
  | some T => tabD n T
theorem tab_rows {n : Nat} {T : Tb} : tabD n T = rowsD false false n (rowsOf n T) := by
  unfold tabD rowsD rowsOf
  rw [List.map_map]
  rfl
theorem rowsOf_len {n : Nat} {T : Tb} : (rowsOf n T).length = n := by unfold rowsOf; rw [List.length_map, List.length_range]
theorem det_len {n : Nat} {F : List Tb} (h : DtOk n F) : (detM n F).length < 90000 := by
  have n3 : n ≤ 3 := by have := h.nn; omega
  have So := states_ok n3 h.t9 h.T n (Nat.le_refl _)
  have h1 : (sget (detStates n F n) (List.range n)).length ≤ tot lenP (detStates n F n) := tot_get (f := lenP) rfl
  have h2 := So.len
  have h3 : 27 ^ n ≤ 27 ^ 3 := Nat.pow_le_pow_right (by decide) n3
  have h4 : (27 : Nat) ^ 3 = 19683 := by decide
  have h5 : (detM n F).length ≤ (sget (detStates n F n) (List.range n)).length := List.length_filter_le _ _
  omega
theorem det_nm {n : Nat} {F : List Tb} (h : DtOk n F) (ne : detM n F ≠ []) : NmOk ⟨detM n F, F.length, n⟩ := by
  obtain ⟨c1, c2, c3, _⟩ := det_poly h.nn h.T
  refine ⟨h.nn, h.t9, c1, ne, c2, ?_, det_len h⟩
  have h1 : La.nrm (detM n F) ≤ La.nrm (sget (detStates n F n) (List.range n)) := nrm_dropZ
  refine Nat.lt_of_le_of_lt (Nat.le_trans h1 c3) ?_
  have e : ∀ k, k ≤ 3 → (2 ^ 414) ^ k ≤ 2 ^ 1242 := fun k hk => by
    rw [← Nat.pow_mul]
    exact Nat.pow_le_pow_right (by decide) (by omega)
  have e3 := e 3 (by omega)
  have e2 := e 2 (by omega)
  have e1 : (2 : Nat) ^ 414 ≤ 2 ^ 1242 := Nat.pow_le_pow_right (by decide) (by omega)
  have e4 : 32 * 2 ^ 1242 ≤ 2 ^ 7999 := by
    rw [show (32 : Nat) = 2 ^ 5 from rfl, ← Nat.pow_add]
    exact Nat.pow_le_pow_right (by decide) (by omega)
  have e5 : (2 : Nat) ^ 7999 < 2 ^ 8000 := Nat.pow_lt_pow_right (by decide) (by omega)
  have p : 0 < (2 : Nat) ^ 1242 := Nat.pow_pos (by decide)
  generalize (2 : Nat) ^ 8000 = z at *
  generalize (2 : Nat) ^ 7999 = y at *
  generalize (2 : Nat) ^ 1242 = x at *
  generalize (2 : Nat) ^ 414 = t at *
  omega
structure ReA where
  n : Nat
  F : List Tb
structure ChA where
  n : Nat
  m : Nat
  Ts : List Tb
  Os : List Tb
structure ChOk (x : ChA) : Prop where
  n : x.n = 1 ∨ x.n = 2 ∨ x.n = 3
  m : x.m = 1 ∨ x.m = 2 ∨ x.m = 3
  t : 0 < x.Ts.length ∧ x.Ts.length ≤ 3
  o : 0 < x.Os.length ∧ x.Os.length ≤ 3
  ts : Sml x.n x.Ts
  os : Sml x.m x.Os
def toldAll (x : ChA) : Option Tb := if x.Ts.length = x.Os.length ∧ x.n = x.m then told x.n x.Ts x.Os else none
section
variable {P : Program} {w : World} {K : PySem.W.Frag} {mg : Str → Option Value} {base : Heap} (bi : Bi mg)
abbrev spRegSum (K : PySem.W.Frag) : Sp := spD K (fun a : ReA => [tabsD true a.n a.F]) (fun a => DtOk a.n a.F) fun a => optTab a.n (regSum a.n a.F)
include bi in
theorem ok_regular_sum {f : Addr} {fd : FuncData} (F : L2.Fun K "regular_sum" "regular_sum" st_regular_sum f fd) (c_raised : Wk.Cal P w K mg base 1 "raised" (spRaised K)) (c_summed : Wk.Cal P w K mg base 1 "summed" (spSummed K)) (c_is_regular : Wk.Cal P w K mg base 7 "is_regular" (spIsRegular K)) (c_determinant_of : Wk.Cal P w K mg base 2 "determinant_of" (spDet K)) (c_numbers_for : Wk.Cal P w K mg base 3 "numbers_for" (spNums K)) : FnOk P w K mg base CX0 8 f fd ["tables"] (spRegSum K) := by
  refine okD F sc_regular_sum (fun _ => rfl) (by decide) fun ⟨n, Fs⟩ cdv A outer s H σ Q E B hr ok eb e k => ⟨_, (pss_cons (ps_for PassesOwn.never (by rfl) (pi_range1 (by rfl) bi.range (pa_cons pe_int pa_nil)) (pg_name (i := 1) sc_regular_sum.nd rfl (by first | exact Or.inl rfl | exact Or.inr rfl)) (pss_cons (ps_set (i := 3) sc_regular_sum.nd rfl (by first | exact Or.inl rfl | exact Or.inr rfl) (pe_cal c_summed hr (by decide) (by rfl) (pa_cons (pv 0) (pa_cons (pe_lc (own := [("at", 4)]) (wi := _) (g := gName 4) (by rfl) sc_regular_sum.nd (pi_range1 (by rfl) bi.range (pa_cons (pe_callB (r := rLenSq K) call_len_seq (by rfl) bi.len (by decide +kernel) (pa_cons (pv 0) pa_nil)) pa_nil)) (blkOk_by (N := N_regular_sum) (sc := (defScope st_regular_sum)) (by decide +kernel)) (fun _ _ _ _ _ => (pg_name (i := 4) sc_regular_sum.nd rfl (by first | exact Or.inl rfl | exact Or.inr rfl))) (fun _ _ _ _ _ => pts_nil) (fun _ _ _ _ _ => (pe_cal c_raised hr (by decide) (by rfl) (pa_cons (pe_op op_add (pv 4) pe_int) (pa_cons (pv 1) pa_nil))))) pa_nil))))
      (pss_one (ps_if (pt_val (pe_cal c_is_regular hr (by decide) (by rfl) (pa_cons (pv 3) pa_nil))) (pss_one (ps_ret (pv 3))) pss_nil))))
      (pss_cons (ps_set (i := 2) sc_regular_sum.nd rfl (by first | exact Or.inl rfl | exact Or.inr rfl) (pe_cal c_determinant_of hr (by decide) (by rfl) (pa_cons (pv 0) pa_nil)))
      (pss_cons (ps_if (pt_cmpR (r := rEqD K) (op_eqD hr.units) (pe_callB (r := rLenT) call_len_dT (by rfl) bi.len (by decide +kernel) (pa_cons (pv 2) pa_nil)) pe_int (nomark _)) (pss_one (ps_ret pe_non)) pss_nil)
      (pss_one (ps_ret (pe_cal c_summed hr (by decide) (by rfl) (pa_cons (pv 0) (pa_cons (pe_cal c_numbers_for hr (by decide) (by rfl) (pa_cons (pv 2) (pa_cons (pe_callB (r := rLenSq K) call_len_seq (by rfl) bi.len (by decide +kernel) (pa_cons (pv 0) pa_nil)) (pa_cons (pe_callB (r := rLenSq K) call_len_seq (by rfl) bi.len (by decide +kernel) (pa_cons (pe_ix (r := rIx K) ix_seq (pv 0) pe_int (fun _ _ => rfl)) pa_nil)) pa_nil)))) pa_nil)))))))), ?_⟩
  dsimp only at ok e k
  have n3 : n ≤ 3 := by have := ok.nn; omega
  have t0 := ok.t0
  have t9 := ok.t9
  have reg : ∀ T, Cells n (fun x => x.natAbs < 2 ^ 430) T → ∀ {G : Gam} {te : TE}, ED K te G (tabD n T) → ED K (tCall (spIsRegular K) [] E0 (tCons te tNil)) G (.bool (isReg n T)) := fun T hT G te h =>
    (ev_call (ea_cons (h.cast tab_rows) ea_nil) (spD_v (⟨false, false, n, rowsOf n T⟩ : RdA) ⟨by dsimp only; omega, (small_fine n3 (rows_bits hT)).1, by dsimp only; rw [rowsOf_len]; omega⟩)).cast (by dsimp only; rw [rowsOf_len]; rfl)
  have fine : ∀ x : Nat → Int, (∀ t, t < 9 → (x t).natAbs < 1024) → Fine n Fs x := fun x hx => ⟨n3, t0, t9, fun t ht => ⟨Nat.lt_of_lt_of_le (hx t (by omega)) (show 1024 ≤ 2 ^ 9000 from Nat.le_trans (show 1024 ≤ 2 ^ 10 by decide) (Nat.pow_le_pow_right (by decide) (by omega))), fun i j hi hj => Nat.lt_of_lt_of_le (ok.cell t ht i j hi hj) (Nat.pow_le_pow_right (by decide) (by omega))⟩⟩
  have sb : ∀ x : Nat → Int, (∀ t, t < 9 → (x t).natAbs < 1024) → Cells n (fun x => x.natAbs < 2 ^ 430) (summedT Fs x) := fun x hx => summed_bits t9 ok.cell hx
  have fl : (Fs.map (tabD n)).length = Fs.length := List.length_map ..
  refine s_for (n := (4 : Int).toNat) (B0 := B) (H0 := H) (Gi := fun _ => [.dat (tabsD true n Fs), .no, .no, .no, .no]) (Φ := fun _ i _ _ => ∀ q, q < i → isReg n (summedT Fs (powers q)) = false) (w_rng1 (ea_cons ev_int ea_nil) ⟨by decide, by decide⟩) e (Ext.refl eb) (fun B1 H1 x1 => ⟨⟨rfl, trivial, trivial, trivial, trivial, trivial⟩, fun q hq => absurd hq (Nat.not_lt_zero q)⟩) (fun B1 i σ2 B2 H2 H3 hi X2 b2 φ x3 e3 => ?_) (fun B1 σ2 B2 H2 e2 X2 φ => ?_)
  · have hi : i < 4 := hi
    have pl : ∀ t, t < 9 → (powers i t).natAbs < 1024 := fun t ht => powers_lt hi ht
    refine s_asg (ev_call (ea_cons (ev_var rfl) (ea_cons ((en_lc (p := fun _ => true) (f := fun t => .int (powers i t)) (w_rng1 (ea_cons (ev_cb (ea_cons (ev_var rfl) ea_nil) (cv_len (k := true) (ds := Fs.map (tabD n)))) ea_nil) ⟨by omega, by omega⟩) (by omega) (by decide) (fun _ _ => et_yes) (fun t ht _ => ev_call (ea_cons (ev_add (ev_var rfl) ev_int) (ea_cons (ev_var rfl) ea_nil)) (spD_v ((t : Int) + 1, i) ⟨by dsimp only; omega, by dsimp only; omega⟩))).dat.cast (b := .list (vec Fs.length (powers i))) (by rw [fl, picked_all]; rfl)) ea_nil)) (spD_v (⟨n, Fs, powers i⟩ : SmA) (fine _ pl))) e3 x3.le fun σ4 H4 B4 x4 e4 => ?_
    refine s_if (et_B (reg _ (sb _ pl) (ev_var rfl))) e4 x4.le (fun hb H5 B5 x5 e5 => ?_) (fun hb H5 B5 x5 e5 => ?_)
    · refine s_ret (ev_var rfl) e5 x5.le fun u H6 B6 x6 r6 => k u H6 B6 ((((X2.trans x3).trans x4).trans x5).trans x6) ?_
      have ef : (List.range 4).find? (fun p => isReg n (summedT Fs (powers p))) = some i := List.find?_range_eq_some.mpr ⟨hb, List.mem_range.mpr hi, fun j hj => by rw [φ j hj]; rfl⟩
      unfold regSum
      rw [ef]
      exact r6
    · dsimp only [tNext]
      refine ⟨B5, e5.le (by exact ⟨rfl, trivial, trivial, trivial, trivial, trivial⟩), ((X2.trans x3).trans x4).trans x5, ((b2.trans x3.bb).trans x4.bb).trans x5.bb, fun q hq => ?_⟩
      by_cases z : q = i
      · rw [z]; exact hb
      · exact φ q (by omega)
  · have φ : ∀ q, q < 4 → isReg n (summedT Fs (powers q)) = false := φ
    have ef : (List.range 4).find? (fun p => isReg n (summedT Fs (powers p))) = none := List.find?_eq_none.mpr fun p hp q => by
      rw [φ p (List.mem_range.mp hp)] at q
      cases q
    have er : regSum n Fs = if (detM n Fs).length = 0 then none else some (summedT Fs (numV (detM n Fs) n)) := by
      unfold regSum
      rw [ef]
    rw [er] at k
    dsimp only [tSeq, tAsg]
    obtain ⟨vt, at0, rt0⟩ := env_dat e2 (i := 0) (t := .dat (tabsD true n Fs)) rfl
    refine ⟨vt, at0, ⟨n, Fs⟩, vt, B2, rfl, X2.le, rt0, ok, fun d H3 B3 hd x3 od => ?_⟩
    dsimp only at od
    have e3 := (e2.mono x3.bb).set (i := 2) (v := .ref d) (t := .val (.ref d)) rfl
    have X3 := X2.trans x3
    refine ⟨.ref d, env_dat e3 (i := 2) (t := .val (.ref d)) rfl, d, _, rfl, od.2, .int ((encP V.int (detM n Fs)).length : Int), .int 0, .int _, .int _, rfl, rfl, _, rfl, ?_⟩
    rw [encP_len]
    show (if (((detM n Fs).length : Int) == 0) = true then _ else _)
    by_cases hz : (detM n Fs).length = 0
    · rw [if_pos (by simp [hz])]
      rw [if_pos hz] at k
      exact s_ret ev_non e3 X3.le fun u H6 B6 x6 r6 => k u H6 B6 (X3.trans x6) r6
    · rw [if_neg (fun z => hz (by have := eq_of_beq z; omega))]
      rw [if_neg hz] at k
      dsimp only [tNext, tRet]
      have ne : detM n Fs ≠ [] := fun z => hz (by rw [z]; rfl)
      obtain ⟨vt3, at3, rt3⟩ := env_dat e3 (i := 0) (t := .dat (tabsD true n Fs)) rfl
      refine ⟨vt3, at3, .ref d, env_dat e3 (i := 2) (t := .val (.ref d)) rfl, ?_⟩
      refine ev_cb (ea_cons (ev_var rfl) ea_nil) (cv_len (k := true) (ds := Fs.map (tabD n))) _ B3 H3 e3 X3.le _ fun v1 H4 B4 x4 r4 => ?_
      refine ev_size (kd := true) (n := n) (Ts := Fs) (ev_var rfl) t0 _ B4 H4 (e3.mono x4.bb) x4.le _ fun v2 H5 B5 x5 r5 => ?_
      have x45 := x4.trans x5
      have od5 := od.ext trivial x45
      rw [dp_int (dat_ok r4), dp_int (dat_ok r5), fl]
      refine ⟨⟨detM n Fs, Fs.length, n⟩, d, B5, rfl, x5.le, od5, det_nm ok ne, fun v H6 B6 Y od6 rv => ?_⟩
      dsimp only at rv od6
      have x6 : Ext B5 H5 B6 H6 := Y.same od5 od6
      have X6 := (X3.trans x45).trans x6
      have nb : ∀ t, t < 9 → (numV (detM n Fs) n t).natAbs < 1024 := fun t ht => by
        have nm := det_nm ok ne
        have := num_step nm.n (num_all nm.n nm.canon nm.ne nm.var t)
        dsimp only at this
        omega
      exact ⟨⟨n, Fs, numV (detM n Fs) n⟩, B6, x6.le, .cons (dp_mono (x45.bb.trans x6.bb) _ rt3) (.cons rv .nil), fine _ nb, fun u H7 B7 x7 r7 => k u H7 B7 (X6.trans x7) r7⟩
abbrev spChangeBetween (K : PySem.W.Frag) : Sp := spD K (fun a : ChA => [tabsD false a.n a.Ts, tabsD false a.m a.Os]) ChOk fun a => optTab a.n (toldAll a)
include bi in
theorem ok_change_between {f : Addr} {fd : FuncData} (F : L2.Fun K "change_between" "change_between" st_change_between f fd) (c_changes_between : Wk.Cal P w K mg base 8 "changes_between" (spChangesBetween K)) (c_regular_sum : Wk.Cal P w K mg base 8 "regular_sum" (spRegSum K)) : FnOk P w K mg base CX0 9 f fd ["tables", "others"] (spChangeBetween K) := by
  refine okD F sc_change_between (fun _ => rfl) (by decide) fun ⟨n, m, Ts, Os⟩ cdv A outer s H σ Q E B hr ok eb e k => ⟨_, (pss_cons (ps_if ((pw_or (pt_cmpR (r := rNeD K) (op_neD hr.units) (pe_callB (r := rLenSq K) call_len_seq (by rfl) bi.len (by decide +kernel) (pa_cons (pv 0) pa_nil)) (pe_callB (r := rLenSq K) call_len_seq (by rfl) bi.len (by decide +kernel) (pa_cons (pv 1) pa_nil)) (nomark _)) (pw_or1 (pt_cmpR (r := rNeD K) (op_neD hr.units) (pe_callB (r := rLenSq K) call_len_seq (by rfl) bi.len (by decide +kernel) (pa_cons (pe_ix (r := rIx K) ix_seq (pv 0) pe_int (fun _ _ => rfl)) pa_nil)) (pe_callB (r := rLenSq K) call_len_seq (by rfl) bi.len (by decide +kernel) (pa_cons (pe_ix (r := rIx K) ix_seq (pv 1) pe_int (fun _ _ => rfl)) pa_nil)) (nomark _))))).pt (pss_one (ps_ret pe_non)) pss_nil)
      (pss_cons (ps_set (i := 2) sc_change_between.nd rfl (by first | exact Or.inl rfl | exact Or.inr rfl) (pe_cal c_changes_between hr (by decide) (by rfl) (pa_cons (pv 0) (pa_cons (pv 1) pa_nil))))
      (pss_one (ps_ret (pe_ifExp (pt_cmpR (r := rEqD K) (op_eqD hr.units) (pe_callB (r := rLenSq K) call_len_seq (by rfl) bi.len (by decide +kernel) (pa_cons (pv 2) pa_nil)) pe_int (nomark _)) pe_non (pe_cal c_regular_sum hr (by decide) (by rfl) (pa_cons (pv 2) pa_nil))))))), ?_⟩
  have hn := ok.n
  have ht := ok.t
  have ho := ok.o
  have hts := ok.ts
  have hos := ok.os
  dsimp only at hn ht ho hts hos e k
  have tl : (Ts.map (tabD n)).length = Ts.length := List.length_map ..
  have ol : (Os.map (tabD m)).length = Os.length := List.length_map ..
  refine s_if (et_or (et_test (ev_neI ((ev_cb (ea_cons (ev_var rfl) ea_nil) (cv_len (k := false) (ds := Ts.map (tabD n)))).cast (b := .int (Ts.length : Int)) (by rw [tl])) ((ev_cb (ea_cons (ev_var rfl) ea_nil) (cv_len (k := false) (ds := Os.map (tabD m)))).cast (b := .int (Os.length : Int)) (by rw [ol])))) fun _ => et_test (ev_neI (ev_size (kd := false) (n := n) (Ts := Ts) (ev_var rfl) ht.1) (ev_size (kd := false) (n := m) (Ts := Os) (ev_var rfl) ho.1))) e eb (fun hb H1 B1 x1 e1 => ?_) fun hb H1 B1 x1 e1 => ?_
  · refine s_ret ev_non e1 x1.le fun u H2 B2 x2 r2 => k u H2 B2 (x1.trans x2) ?_
    have : ¬ (Ts.length = Os.length ∧ n = m) := by
      rintro ⟨h1, h2⟩
      rw [h1, h2] at hb
      simp at hb
    unfold toldAll
    dsimp only
    rw [if_neg this]
    exact r2
  · have h1 : Ts.length = Os.length ∧ n = m := by
      simp at hb
      omega
    obtain ⟨hl, rfl⟩ := h1
    have n3 : n ≤ 3 := by omega
    have ek : toldAll ⟨n, n, Ts, Os⟩ = told n Ts Os := by unfold toldAll; dsimp only; rw [if_pos ⟨hl, rfl⟩]
    rw [ek] at k
    dsimp only [tNext]
    refine s_asg (ev_call (ea_cons (ev_var rfl) (ea_cons (ev_var rfl) ea_nil)) (spD_v (⟨n, Ts, Os⟩ : TsA) ⟨n3, ht.1, ht.2, hl, (null_fine (nn9 hn) (cond_bits hts hos)).1⟩)) e1 x1.le fun σ2 H2 B2 x2 e2 => ?_
    dsimp only at e2
    have cl : ((chgs n Ts Os).map (tabD n)).length = (chgs n Ts Os).length := List.length_map ..
    refine s_ret (ev_if (t := .dat (optTab n (told n Ts Os))) (et_test (ev_eqI ((ev_cb (ea_cons (ev_var rfl) ea_nil) (cv_len (k := true) (ds := (chgs n Ts Os).map (tabD n)))).cast (b := .int ((chgs n Ts Os).length : Int)) (by rw [cl])) ev_int)) (fun q => ev_non.cast ?_) fun q => (ev_call (ea_cons (ev_var rfl) ea_nil) (spD_v (⟨n, chgs n Ts Os⟩ : ReA) ?_)).cast ?_) e2 x2.le fun u H3 B3 x3 r3 => k u H3 B3 ((x1.trans x2).trans x3) r3
    · have q := eq_of_beq q
      unfold told
      rw [if_pos (by omega)]
      rfl
    · have q : ¬ ((chgs n Ts Os).length : Int) = 0 := by simpa using q
      exact ⟨hn, by dsimp only; omega, Nat.le_trans chgs_len (nn9 hn), chgs_bits hn hts hos⟩
    · have q : ¬ ((chgs n Ts Os).length : Int) = 0 := by simpa using q
      unfold told
      rw [if_neg (by omega)]
end
end At
-- V18
namespace At
open PySem PySem.Spec PyProof.Rows L2 Wk La
abbrev st_init : Stmt := inClass (topS 28) 1
abbrev N_init : List Str := ["self", "tables", "at"]
theorem sc_init : FnScope N_init ["self", "tables"] (defScope st_init) := ⟨rfl, rfl, rfl, by decide +kernel, rfl, by decide +kernel, by decide +kernel⟩
abbrev st_tabs : Stmt := inClass (topS 28) 3
abbrev N_tabs : List Str := ["self"]
theorem sc_tabs : FnScope N_tabs ["self"] (defScope st_tabs) := ⟨rfl, rfl, rfl, by decide +kernel, rfl, by decide +kernel, by decide +kernel⟩
abbrev st_check_lot : Stmt := topS 32
abbrev N_check_lot : List Str := ["value"]
theorem sc_check_lot : FnScope N_check_lot ["value"] (defScope st_check_lot) := ⟨rfl, rfl, rfl, by decide +kernel, rfl, by decide +kernel, by decide +kernel⟩
abbrev st_alike : Stmt := topS 45
abbrev N_alike : List Str := ["lot", "other"]
theorem sc_alike : FnScope N_alike ["lot", "other"] (defScope st_alike) := ⟨rfl, rfl, rfl, by decide +kernel, rfl, by decide +kernel, by decide +kernel⟩
/-- what is told of the class Lot -/
structure LotF (K : PySem.W.Frag) (mg : Str → Option Value) (C p pp gt : Addr) (ix : Nat) : Prop where
  scls : SlX.SCls K C
  sisi : SlX.SIsi K C
  slot : SlX.Slot1 K C "own_tables" p ix
  self : PySem.W.kitOne K (.ref C) (.ref C) = some true
  glob : mg "Lot" = some (.ref C)
  pat : PySem.W.findIn K (.ref C) "tables" = some (some (.ref pp))
  pget : PySem.W.specialIn K (.ref pp) "__get__" = some (some (.builtin "property.__get__"))
  ptk : PySem.W.takesIn K (.ref pp) = some true
  prc : ∃ rest, PySem.W.recIn K pp "property" = some (.ref gt :: rest)
/-- a lot stands at x: hidden, its tables vt -/
structure LotO (C : Addr) (ix : Nat) (x dx : Addr) (vt : V) (B H : Hp) : Prop where
  ne : dx ≠ x
  bx : B x = none
  bd : B dx = none
  hx : H x = some (SlX.SlO x C dx (SlX.putS ix vt []))
  hd : H dx = some (.xd [])
theorem mu_slo {a C dx : Addr} {vs : List (Option V)} : Mu (some (SlX.SlO a C dx vs)) := trivial
section
variable {C p pp gt x dx : Addr} {ix : Nat} {vt : V} {B H B' H' : Hp}
theorem LotO.ext (h : LotO C ix x dx vt B H) (e : Ext B H B' H') : LotO C ix x dx vt B' H' := ⟨h.ne, e.hid x (by rw [h.hx]; exact mu_slo) h.bx, e.hid dx (by rw [h.hd]; trivial) h.bd, e.ex x _ h.hx, e.ex dx _ h.hd⟩
theorem LotO.slt (h : LotO C ix x dx vt B H) : SlX.Slt H x C dx (SlX.putS ix vt []) := .inr ⟨h.hx, h.hd⟩
theorem LotO.over {S : List Addr} (h : LotO C ix x dx vt B H) (h1 : x ∉ S) (h2 : dx ∉ S) (Y : Ext B (hideH H S) B' H') : LotO C ix x dx vt B' H' := ⟨h.ne, Y.hid x (by rw [hide_out h1, h.hx]; exact mu_slo) h.bx, Y.hid dx (by rw [hide_out h2, h.hd]; trivial) h.bd, Y.ex x _ (by rw [hide_out h1]; exact h.hx), Y.ex dx _ (by rw [hide_out h2]; exact h.hd)⟩
end
def LotOk (n : Nat) (Ts : List Tb) : Prop := 0 < Ts.length ∧ Ts.length ≤ 3 ∧ ∀ t, t < Ts.length → Good n (tbl Ts t)
section
variable {P : Program} {w : World} {K : PySem.W.Frag} {mg : Str → Option Value} {base : Heap} (bi : Bi mg) {C p pp gt : Addr} {ix : Nat} (lf : LotF K mg C p pp gt ix)
def spInit (K : PySem.W.Frag) (C : Addr) (ix : Nat) : Sp := fun vs H Q _ => ∃ (a : TlA) (x dx : Addr) (vt : V) (B : Hp), vs = [.ref x, vt] ∧ Evl.Ex B H ∧ dx ≠ x ∧ B x = none ∧ B dx = none ∧ H x = some (.ins C dx []) ∧ H dx = some (.own x) ∧ Dp K B vt (tabsD false a.n a.Ts) ∧ LotOk a.n a.Ts ∧
  ∀ vt2 H' B', Ext B (hideH H [x, dx]) B' H' → LotO C ix x dx vt2 B' H' → Dp K B' vt2 (tabsD false a.n a.Ts) → Q .non H'
include lf in
theorem ok_init {f : Addr} {fd : FuncData} (F : L2.Fun K "__init__" "Lot.__init__" st_init f fd) (c_wrong_table : Wk.Cal P w K mg base 4 "wrong_table" (spWrongTable K)) : FnOk P w K mg base CX0 5 f fd ["self", "tables"] (spInit K C ix) := by
  refine F.ok sc_init (fun vs H Q E h => ?_) (fun cdv A outer s H vs Q E hr h => ⟨_, (pss_cons (ps_set (i := 2) sc_init.nd rfl (by first | exact Or.inl rfl | exact Or.inr rfl) (pe_cal c_wrong_table hr (by decide) (by rfl) (pa_cons (pv 1) pa_nil)))
      (pss_cons (ps_if (pt_cmpR (r := rNotNone) op_notN (pv 2) pe_non (nomark _)) pss_never pss_nil)
      (pss_one (SlX.ps_sl (pv 0) (pv 1))))), ?_⟩)
  · obtain ⟨a, x, dx, vt, B, rfl, _⟩ := h
    rfl
  obtain ⟨⟨n, Ts⟩, x, dx, vt, B, rfl, eb, ne, bx, bd, hx, hd, rt, ok, k⟩ := h
  dsimp only at rt ok k
  have e0 := env_ents (K := K) (B := B) (N := N_init) (.cons (t := .val (.ref x)) rfl (.cons (ok_dat rt) .nil)) (show 2 ≤ 3 by decide)
  have X0 : Ext B (hideH H [x, dx]) B H := Ext.base eb fun z hz => by
    rcases List.mem_cons.mp hz with q | q
    · rw [q]; exact bx
    · rw [List.mem_singleton.mp q]; exact bd
  refine s_asg (ev_call (ea_cons (ev_var rfl) ea_nil) (spD_v (⟨n, Ts⟩ : TlA) ok)) e0 eb fun σ1 H1 B1 x1 e1 => ?_
  refine s_if (et_test (ev_notN (ev_var rfl))) e1 x1.le (fun hb => by cases hb) fun hb H2 B2 x2 e2 => ?_
  dsimp only [tNext]
  have x12 := x1.trans x2
  obtain ⟨vt2, at2, rt2⟩ := env_dat e2 (i := 1) (t := .dat (tabsD false n Ts)) rfl
  have bx2 := x12.hid x (by rw [hx]; trivial) bx
  have bd2 := x12.hid dx (by rw [hd]; trivial) bd
  refine ⟨vt2, at2, .ref x, env_dat e2 (i := 0) (t := .val (.ref x)) rfl, x, C, dx, p, [], ix, rfl, .inl ⟨x12.ex x _ hx, rfl⟩, lf.scls, lf.slot, ?_⟩
  have X2 := X0.trans x12
  have X3 : Ext B (hideH H [x, dx]) B2 (L2.upd H2 dx (.xd [])) := X2.mut (hide_in (by simp)) bd2
  have X4 : Ext B (hideH H [x, dx]) B2 (L2.upd (L2.upd H2 dx (.xd [])) x (SlX.SlO x C dx (SlX.putS ix vt2 []))) := X3.mut (hide_in (by simp)) bx2
  exact k vt2 _ B2 X4 ⟨ne, bx2, bd2, upd_same, by show L2.upd (L2.upd H2 dx (.xd [])) x _ dx = _; rw [upd_ne ne, upd_same]⟩ rt2
def spTabs (K : PySem.W.Frag) (C : Addr) (ix : Nat) : Sp := fun vs H Q _ => ∃ (x dx : Addr) (vt : V) (B : Hp), vs = [.ref x] ∧ Evl.Ex B H ∧ LotO C ix x dx vt B H ∧ ∀ H' B', Ext B H B' H' → Q vt H'
include lf in
theorem ok_tabs {f : Addr} {fd : FuncData} (F : L2.Fun K "tables" "Lot.tables" st_tabs f fd) : FnOk P w K mg base CX0 1 f fd ["self"] (spTabs K C ix) := by
  refine F.ok sc_tabs (fun vs H Q E h => ?_) (fun cdv A outer s H vs Q E hr h => ⟨_, pss_one (ps_ret (SlX.pe_sl (pv 0))), ?_⟩)
  · obtain ⟨x, dx, vt, B, rfl, _⟩ := h
    rfl
  obtain ⟨x, dx, vt, B, rfl, eb, lo, k⟩ := h
  exact ⟨.ref x, rfl, x, C, dx, p, _, ix, vt, rfl, lo.slt, lf.scls, lf.slot, SlX.putS_get .., k H B (Ext.refl eb)⟩
def spCheck (K : PySem.W.Frag) (C : Addr) (ix : Nat) : Sp := fun vs H Q _ => ∃ (x dx : Addr) (vt : V) (B : Hp), vs = [.ref x] ∧ Evl.Ex B H ∧ LotO C ix x dx vt B H ∧ ∀ H' B', Ext B H B' H' → Q .non H'
include bi lf in
theorem ok_check_lot {f : Addr} {fd : FuncData} (F : L2.Fun K "check_lot" "check_lot" st_check_lot f fd) : FnOk P w K mg base CX0 1 f fd ["value"] (spCheck K C ix) := by
  refine F.ok sc_check_lot (fun vs H Q E h => ?_) (fun cdv A outer s H vs Q E hr h => ⟨_, pss_one (ps_if (pt_not (pt_val (pe_callB (r := SlX.rIsiSl K (.ref C)) (SlX.call_isiSl (.ref C)) (by rfl) bi.isinstance (by decide +kernel) (pa_cons (pv 0) (pa_cons (pe_glob (v := .ref C) (by rfl) lf.glob rfl) pa_nil))))) pss_never pss_nil), ?_⟩)
  · obtain ⟨x, dx, vt, B, rfl, _⟩ := h
    rfl
  obtain ⟨x, dx, vt, B, rfl, eb, lo, k⟩ := h
  refine ⟨.ref x, rfl, x, C, dx, _, .ref C, true, rfl, rfl, fun w h => h, lo.slt, lf.scls, lf.sisi, lf.self, true, rfl, ?_⟩
  show (if (!true) = true then _ else _)
  rw [if_neg (by decide)]
  exact k H B (Ext.refl eb)
structure AlA where
  x : ChA
  a : Addr
  da : Addr
  b : Addr
  db : Addr
  va : V
  vb : V
def spAlike (K : PySem.W.Frag) (C : Addr) (ix : Nat) : Sp := fun vs H Q _ => ∃ (y : AlA) (B : Hp), vs = [.ref y.a, .ref y.b] ∧ Evl.Ex B H ∧ LotO C ix y.a y.da y.va B H ∧ LotO C ix y.b y.db y.vb B H ∧ Dp K B y.va (tabsD false y.x.n y.x.Ts) ∧ Dp K B y.vb (tabsD false y.x.m y.x.Os) ∧ ChOk y.x ∧
  ∀ v H' B', Ext B H B' H' → Dp K B' v (optTab y.x.n (toldAll y.x)) → Q v H'
include lf in
theorem ok_alike {f : Addr} {fd gfd : FuncData} (F : L2.Fun K "alike" "alike" st_alike f fd) (c_check_lot : Wk.Cal P w K mg base 1 "check_lot" (spCheck K C ix)) (c_change_between : Wk.Cal P w K mg base 9 "change_between" (spChangeBetween K)) (G : FnOk P w K mg base CX0 1 gt gfd ["self"] (spTabs K C ix)) (gb : L2.Binds K gfd ["self"] []) : FnOk P w K mg base CX0 10 f fd ["lot", "other"] (spAlike K C ix) := by
  have GR := G.raw (k := 1) gb .nil
  refine F.ok sc_alike (fun vs H Q E h => ?_) (fun cdv A outer s H vs Q E hr h => ⟨_, pss_cons (ps_expr (pe_cal c_check_lot hr (by decide) (by rfl) (pa_cons (pv 0) pa_nil))) (pss_cons (ps_expr (pe_cal c_check_lot hr (by decide) (by rfl) (pa_cons (pv 1) pa_nil)))
    (pss_one (ps_ret (pe_cal c_change_between hr (by decide) (by rfl) (pa_cons (SlX.pe_propSl (C := C) (n := 1) (E := E0) (pv 0) lf.scls lf.pat lf.pget lf.ptk lf.prc GR (hr.mono (by decide)) (fun _ _ _ _ h => h)) (pa_cons (SlX.pe_propSl (C := C) (n := 1) (E := E0) (pv 1) lf.scls lf.pat lf.pget lf.ptk lf.prc GR (hr.mono (by decide)) (fun _ _ _ _ h => h)) pa_nil)))))), ?_⟩)
  · obtain ⟨y, B, rfl, _⟩ := h
    rfl
  obtain ⟨⟨x, a, da, b, db, va, vb⟩, B, rfl, eb, la, lb, ra, rb, ok, k⟩ := h
  dsimp only at la lb ra rb ok k
  refine ⟨.ref a, rfl, a, da, va, B, rfl, eb, la, fun H1 B1 x1 => ?_⟩
  have lb1 := lb.ext x1
  refine ⟨.ref b, rfl, b, db, vb, B1, rfl, x1.le, lb1, fun H2 B2 x2 => ?_⟩
  have x12 := x1.trans x2
  have la2 := la.ext x12
  have lb2 := lb.ext x12
  refine ⟨.ref a, rfl, a, da, _, rfl, la2.slt, a, da, va, B2, rfl, x12.le, la2, fun H3 B3 x3 => ?_⟩
  have lb3 := lb2.ext x3
  refine ⟨.ref b, rfl, b, db, _, rfl, lb3.slt, b, db, vb, B3, rfl, x3.le, lb3, fun H4 B4 x4 => ?_⟩
  have x14 := (x12.trans x3).trans x4
  exact ⟨x, B4, x4.le, .cons (dp_mono x14.bb _ ra) (.cons (dp_mono x14.bb _ rb) .nil), ok, fun v H5 B5 x5 r5 => k v H5 B5 (x14.trans x5) r5⟩
end
end At
-- V19
namespace At
open PySem PySem.Spec PyProof.Rows L2 Wk La
abbrev st_law_shared : Stmt := topS 52
abbrev N_law_shared : List Str := ["_law_one_here", "_law_two", "_law_block", "_law_turn", "_law_rest", "_law_laps"]
theorem sc_law_shared : FnScope N_law_shared ["_law_one_here", "_law_two"] (defScope st_law_shared) := ⟨rfl, rfl, rfl, by decide +kernel, rfl, by decide +kernel, by decide +kernel⟩
section
variable {P : Program} {w : World} {K : PySem.W.Frag} {mg : Str → Option Value} {base : Heap} (bi : Bi mg)
abbrev spLShared (K : PySem.W.Frag) : Sp := spD K (fun a : Int × Int => [.int a.1, .int a.2]) (fun a => a.1.natAbs < 2 ^ 9000 ∧ a.2.natAbs < 2 ^ 9000) fun a => .int (gcdI a.1 a.2)
theorem max_nat {a b : Nat} : (if (b : Int) > (a : Int) then (b : Int) else (a : Int)) = ((max a b : Nat) : Int) := by
  split <;> omega
theorem div_pow {m i : Nat} : ((m / 10 ^ (50 * i) : Nat) : Int).fdiv ((10 : Int) ^ (50 : Int).toNat) = ((m / 10 ^ (50 * (i + 1)) : Nat) : Int) := by
  have e : (10 : Int) ^ (50 : Int).toNat = ((10 ^ 50 : Nat) : Int) := by decide
  rw [e, Int.fdiv_eq_ediv_of_nonneg _ (by omega), ← Int.natCast_ediv, Nat.div_div_eq_div_mul, ← Nat.pow_add]
  rfl
include bi in
theorem ok_law_shared {f : Addr} {fd : FuncData} (F : L2.Fun K "_law_shared" "_law_shared" st_law_shared f fd) : FnOk P w K mg base CX0 1 f fd ["_law_one_here", "_law_two"] (spLShared K) := by
  refine okD F sc_law_shared (fun _ => rfl) (by decide) fun ⟨a, b⟩ cdv A outer s H σ Q E B hr ⟨ha, hb⟩ eb e k => ⟨_, (pss_cons (ps_par (i := 4) (j := 5) (by rfl) sc_law_shared.nd rfl rfl (by decide) rfl rfl (pa_cons (pe_callB (call_max2 (by rfl)) (by rfl) bi.max (by decide +kernel) (pa_cons (pe_callB call_abs (by rfl) bi.abs (by decide +kernel) (pa_cons (pv 0) pa_nil)) (pa_cons (pe_callB call_abs (by rfl) bi.abs (by decide +kernel) (pa_cons (pv 1) pa_nil)) pa_nil))) (pa_cons pe_int pa_nil)) (by rfl))
      (pss_cons (ps_for PassesOwn.never (by rfl) (pi_range1 (by rfl) bi.range (pa_cons pe_int pa_nil)) (pg_name (i := 2) sc_law_shared.nd rfl (by first | exact Or.inl rfl | exact Or.inr rfl)) (pss_cons (ps_if (pt_cmpR (r := rEqD K) (op_eqD hr.units) (pv 4) pe_int (nomark _)) (pss_one ps_break) pss_nil)
      (pss_one (ps_par (i := 5) (j := 4) (by rfl) sc_law_shared.nd rfl rfl (by decide) rfl rfl (pa_cons (pe_op op_add (pv 5) pe_int) (pa_cons (pe_op op_fdivG (pv 4) (pe_op op_pow pe_int pe_int)) pa_nil)) (by rfl)))))
      (pss_cons (ps_par (i := 0) (j := 1) (by rfl) sc_law_shared.nd rfl rfl (by decide) rfl rfl (pa_cons (pe_callB call_abs (by rfl) bi.abs (by decide +kernel) (pa_cons (pv 0) pa_nil)) (pa_cons (pe_callB call_abs (by rfl) bi.abs (by decide +kernel) (pa_cons (pv 1) pa_nil)) pa_nil)) (by rfl))
      (pss_cons (ps_for PassesOwn.never (by rfl) (pi_range1 (by rfl) bi.range (pa_cons (pv 5) pa_nil)) (pg_name (i := 3) sc_law_shared.nd rfl (by first | exact Or.inl rfl | exact Or.inr rfl)) (pss_cons (ps_if (pt_cmpR (r := rEqD K) (op_eqD hr.units) (pv 1) pe_int (nomark _)) (pss_one ps_break) pss_nil)
      (pss_one (ps_par (i := 0) (j := 1) (by rfl) sc_law_shared.nd rfl rfl (by decide) rfl rfl (pa_cons (pv 1) (pa_cons (pe_op op_modN (pe_callTy call_int1 (by rfl) bi.int (by decide +kernel) (pa_cons (pv 0) pa_nil)) (pv 1)) pa_nil)) (by rfl)))))
      (pss_one (ps_ret (pv 0))))))), ?_⟩
  dsimp only at ha hb e k
  generalize hmx : max a.natAbs b.natAbs = mx
  have hm9 : mx < 2 ^ 9000 := by rw [← hmx]; exact Nat.max_lt.mpr ⟨ha, hb⟩
  refine s_parE ((ev_cb (ea_cons (ev_cb (ea_cons (ev_var rfl) ea_nil) cv_abs) (ea_cons (ev_cb (ea_cons (ev_var rfl) ea_nil) cv_abs) ea_nil)) cv_max2).cast (b := .int (mx : Int)) (by rw [max_nat, hmx])) ev_int e eb fun σ1 H1 B1 x1 e1 => ?_
  have lim : (200 : Int).toNat = 200 := rfl
  refine s_forB (n := (200 : Int).toNat) (B0 := B) (H0 := H) (Gi := fun i => [.dat (.int a), .dat (.int b), .no, .no, .dat (.int ((mx / 10 ^ (50 * i) : Nat) : Int)), .dat (.int ((9 + 250 * i : Nat) : Int))]) (Φ := fun _ => True) (Ψ := fun i => mx < 10 ^ (50 * i)) (w_rng1 (ea_cons ev_int ea_nil) ⟨by decide, by decide⟩) e1 x1 ⟨⟨rfl, rfl, trivial, trivial, (by show PyData.int _ = PyData.int _; rw [Nat.mul_zero, Nat.pow_zero, Nat.div_one]), rfl, trivial⟩, trivial⟩ (fun _ => lim_ok hm9) (fun i σ2 B2 H2 hi hΨ e2 X2 => ?_) (fun B2 i σ2 B3 H3 H4 hi X3 b3 _ x4 e3 brk => ?_)
  · dsimp only
    refine s_parE (ev_cb (ea_cons (ev_var rfl) ea_nil) cv_abs) (ev_cb (ea_cons (ev_var rfl) ea_nil) cv_abs) e2 X2.le fun σ3 H3 B3 x3 e3 => ?_
    have X3 := X2.trans x3
    have hi : i ≤ 200 := hi
    let sp : Nat → Nat × Nat := fun j => stp j (a.natAbs, b.natAbs)
    have tn : ((9 + 250 * i : Nat) : Int).toNat = 9 + 250 * i := rfl
    refine s_forB (n := ((9 + 250 * i : Nat) : Int).toNat) (B0 := B) (H0 := H) (Gi := fun j => [.dat (.int ((sp j).1 : Int)), .dat (.int ((sp j).2 : Int)), .no, .no, .no, .no]) (Φ := fun j => ∀ q, q < j → (sp q).2 ≠ 0) (Ψ := fun j => (sp j).2 = 0) (w_rng1 (ea_cons (ev_var rfl) ea_nil) ⟨by omega, by omega⟩) e3 X3 ⟨⟨rfl, rfl, trivial, trivial, trivial, trivial, trivial⟩, fun q hq => absurd hq (Nat.not_lt_zero q)⟩ (fun φ => ?_) (fun j σ4 B4 H4 hj hΨ e4 X4 => ?_) (fun B4 j σ4 B5 H5 H6 hj X5 b5 φ x6 e6 brk => ?_)
    · rw [tn] at φ ⊢
      obtain ⟨j, hj, z⟩ := laps_ok (a := a.natAbs) (b := b.natAbs) (m := i) (by rw [hmx]; exact hΨ)
      have : ¬ j < 9 + 250 * i := fun lt => φ j lt z
      have : j = 9 + 250 * i := by omega
      rw [← this]
      exact z
    · dsimp only
      refine s_ret (ev_var rfl) e4 X4.le fun u H5 B5 x5 r5 => k u H5 B5 (X4.trans x5) ?_
      have g := stp_gcd j (a.natAbs, b.natAbs)
      have hΨ : (stp j (a.natAbs, b.natAbs)).2 = 0 := hΨ
      rw [hΨ, Nat.gcd_zero_right] at g
      have : gcdI a b = ((sp j).1 : Int) := by
        show ((Nat.gcd a.natAbs b.natAbs : Nat) : Int) = _
        rw [← g]
      rw [this]
      exact r5
    · refine s_if (et_test (ev_eqI (ev_var rfl) ev_int)) e6 x6.le (fun q H7 B7 x7 e7 => ?_) (fun q H7 B7 x7 e7 => ?_)
      · have q := eq_of_beq q
        exact brk j _ B7 H7 (by omega) (by omega) (e7.le (by exact ⟨rfl, rfl, trivial, trivial, trivial, trivial, trivial⟩)) ((X5.trans x6).trans x7)
      · dsimp only [tNext]
        have q : ((sp j).2 : Int) ≠ 0 := by simpa using q
        refine s_parE (ev_var rfl) ((ev_fmod (x := ((sp j).1 : Int)) (y := ((sp j).2 : Int)) (ev_cb (ea_cons (ev_var rfl) ea_nil) cv_int) (ev_var rfl) (show ((sp j).2 : Int) ≠ 0 from q)).cast (by rw [stp_nat])) e7 x7.le fun σ8 H8 B8 x8 e8 => ?_
        refine ⟨B8, e8.le ?_, ((X5.trans x6).trans x7).trans x8, (b5.trans x6.bb).trans (x7.bb.trans x8.bb), fun r hr => ?_⟩
        · have es : sp (j + 1) = ((sp j).2, (sp j).1 % (sp j).2) := stp_succ j _
          show Gle [.dat (.int ((sp (j + 1)).1 : Int)), .dat (.int ((sp (j + 1)).2 : Int)), _, _, _, _] _
          rw [es]
          exact ⟨rfl, rfl, trivial, trivial, trivial, trivial, trivial⟩
        · by_cases z : r = j
          · rw [z]; omega
          · exact φ r (by omega)
  · refine s_if (et_test (ev_eqI (ev_var rfl) ev_int)) e3 x4.le (fun q H5 B5 x5 e5 => ?_) (fun q H5 B5 x5 e5 => ?_)
    · have q := eq_of_beq q
      have z : mx / 10 ^ (50 * i) = 0 := by omega
      have lt : mx < 10 ^ (50 * i) := by
        rcases Nat.lt_or_ge mx (10 ^ (50 * i)) with h | h
        · exact h
        · have := Nat.div_pos h (Nat.pow_pos (by decide))
          omega
      exact brk i _ B5 H5 (by omega) lt (e5.le (by exact ⟨rfl, rfl, trivial, trivial, rfl, rfl, trivial⟩)) ((X3.trans x4).trans x5)
    · dsimp only [tNext]
      refine s_parE (ev_add (ev_var rfl) ev_int) ((ev_fdiv (ev_var rfl) (ev_pow ev_int ev_int ⟨by decide, by decide, by decide⟩) ⟨by decide, by decide +kernel⟩).cast (by rw [div_pow])) e5 x5.le fun σ6 H6 B6 x6 e6 => ?_
      refine ⟨B6, e6.le ?_, ((X3.trans x4).trans x5).trans x6, (b3.trans x4.bb).trans (x5.bb.trans x6.bb), trivial⟩
      refine ⟨rfl, rfl, trivial, trivial, rfl, ?_, trivial⟩
      show PyData.int _ = PyData.int _
      congr 1
end
end At
-- V20
namespace At
open PySem PySem.Spec PyProof.Rows L2 Wk La
abbrev st_law_lead : Stmt := topS 53
abbrev N_law_lead : List Str := ["_law_line", "_law_k"]
theorem sc_law_lead : FnScope N_law_lead ["_law_line"] (defScope st_law_lead) := ⟨rfl, rfl, rfl, by decide +kernel, rfl, by decide +kernel, by decide +kernel⟩
abbrev st_law_plain : Stmt := topS 54
abbrev N_law_plain : List Str := ["_law_line", "_law_by", "_law_part", "_law_at"]
theorem sc_law_plain : FnScope N_law_plain ["_law_line"] (defScope st_law_plain) := ⟨rfl, rfl, rfl, by decide +kernel, rfl, by decide +kernel, by decide +kernel⟩
abbrev st_law_struck : Stmt := topS 55
abbrev N_law_struck : List Str := ["_law_line", "_law_own", "_law_at", "_law_k"]
theorem sc_law_struck : FnScope N_law_struck ["_law_line", "_law_own", "_law_at"] (defScope st_law_struck) := ⟨rfl, rfl, rfl, by decide +kernel, rfl, by decide +kernel, by decide +kernel⟩
def ldI : Option Nat → Int
  | some i => (i : Int)
  | none => -1
theorem gcd_lt {w b : Nat} {v : Vec} (h : Bt w b v) : ∀ i, i ≤ w → (gcdN v i).natAbs < 2 ^ b := fun i hi => by
  by_cases nz : Nz i v
  · exact (gcd_small nz fun j hj => h j (by omega)).2
  · rw [gcdN_zero.mpr (not_nz.mp nz)]
    exact Nat.pow_pos (by decide)
section
variable {P : Program} {w : World} {K : PySem.W.Frag} {mg : Str → Option Value} {base : Heap} (bi : Bi mg)
abbrev spLLead (K : PySem.W.Frag) : Sp := spD K (fun a : RowA => [rowD a.k a.w a.v]) (fun a => a.w ≤ 9) fun a => .int (ldI (lead a.v a.w))
include bi in
theorem ok_law_lead {f : Addr} {fd : FuncData} (F : L2.Fun K "_law_lead" "_law_lead" st_law_lead f fd) : FnOk P w K mg base CX0 1 f fd ["_law_line"] (spLLead K) := by
  refine okD F sc_law_lead (fun _ => rfl) (by decide) fun ⟨kd, n, v⟩ cdv A outer s H σ Q E B hr hw eb e k => ⟨_, (pss_cons (ps_for PassesOwn.never (by rfl) (pi_range1 (by rfl) bi.range (pa_cons (pe_callB (r := rLenSq K) call_len_seq (by rfl) bi.len (by decide +kernel) (pa_cons (pv 0) pa_nil)) pa_nil)) (pg_name (i := 1) sc_law_lead.nd rfl (by first | exact Or.inl rfl | exact Or.inr rfl)) (pss_one (ps_if (pt_cmpR (r := rNeD K) (op_neD hr.units) (pe_ix (r := rIx K) ix_seq (pv 0) (pv 1) (fun _ _ => rfl)) pe_int (nomark _)) (pss_one (ps_ret (pv 1))) pss_nil)))
      (pss_one (ps_ret (pe_un un_neg pe_int)))), ?_⟩
  dsimp only at hw e k
  refine s_for (n := ((n : Int)).toNat) (B0 := B) (H0 := H) (Gi := fun i => [.dat (rowD kd n v), .no]) (Φ := fun _ i _ _ => lead v i = none) (w_rng1 (ea_cons ((ev_cb (ea_cons (ev_var rfl) ea_nil) (cv_len (k := kd) (ds := vec n v))).cast (b := .int (n : Int)) (by rw [vec_len])) ea_nil) ⟨by omega, by omega⟩) e (Ext.refl eb) (fun B1 H1 x1 => ⟨⟨rfl, trivial, trivial⟩, rfl⟩) (fun B1 i σ2 B2 H2 H3 hi X2 b2 φ x3 e3 => ?_) (fun B1 σ2 B2 H2 e2 X2 φ => ?_)
  · have hi : i < n := by omega
    refine s_if (et_test (ev_neI (ev_ix (ev_var rfl) (ev_var rfl) rfl (vec_at hi)) ev_int)) e3 x3.le (fun hb H4 B4 x4 e4 => ?_) (fun hb H4 B4 x4 e4 => ?_)
    · have ne : v i ≠ 0 := by simpa using hb
      refine s_ret (ev_var rfl) e4 x4.le fun u H5 B5 x5 r5 => k u H5 B5 (((X2.trans x3).trans x4).trans x5) ?_
      rw [lead_some.mpr ⟨hi, ne, lead_none.mp φ⟩]
      exact r5
    · have z : v i = 0 := by simpa using hb
      dsimp only [tNext]
      refine ⟨B4, e4.le (by exact ⟨rfl, trivial, trivial⟩), (X2.trans x3).trans x4, b2.trans (x3.bb.trans x4.bb), ?_⟩
      simp only [lead]
      rw [φ, z]
      rfl
  · dsimp only
    have φ : lead v n = none := φ
    refine s_ret (ev_neg ev_int) e2 X2.le fun u H5 B5 x5 r5 => k u H5 B5 (X2.trans x5) ?_
    rw [φ]
    exact r5
abbrev spLPlain (K : PySem.W.Frag) : Sp := spD K (fun a : RowA => [rowD a.k a.w a.v]) (fun a => a.w ≤ 9 ∧ Bt a.w 9000 a.v) fun a => rowD false a.w (La.plain a.w a.v)
include bi in
theorem ok_law_plain {f : Addr} {fd : FuncData} (F : L2.Fun K "_law_plain" "_law_plain" st_law_plain f fd) (c_law_shared : Wk.Cal P w K mg base 1 "_law_shared" (spLShared K)) (c_law_lead : Wk.Cal P w K mg base 1 "_law_lead" (spLLead K)) : FnOk P w K mg base CX0 2 f fd ["_law_line"] (spLPlain K) := by
  refine okD F sc_law_plain (fun _ => rfl) (by decide) fun ⟨kd, n, v⟩ cdv A outer s H σ Q E B hr ⟨hw, hv⟩ eb e k => ⟨_, (pss_cons (ps_set (i := 1) sc_law_plain.nd rfl (by first | exact Or.inl rfl | exact Or.inr rfl) pe_int)
      (pss_cons (ps_for PassesOwn.never (by rfl) (pi_sq (pv 0)) (pg_name (i := 2) sc_law_plain.nd rfl (by first | exact Or.inl rfl | exact Or.inr rfl)) (pss_one (ps_set (i := 1) sc_law_plain.nd rfl (by first | exact Or.inl rfl | exact Or.inr rfl) (pe_cal c_law_shared hr (by decide) (by rfl) (pa_cons (pv 1) (pa_cons (pv 2) pa_nil))))))
      (pss_cons (ps_set (i := 3) sc_law_plain.nd rfl (by first | exact Or.inl rfl | exact Or.inr rfl) (pe_cal c_law_lead hr (by decide) (by rfl) (pa_cons (pv 0) pa_nil)))
      (pss_cons (ps_if (pt_cmpR op_lt (pv 3) pe_int (nomark _)) (pss_one (ps_ret (pe_callTy (r := rTupOf K) call_tuple_of (by rfl) bi.tuple (by decide +kernel) (pa_cons (pv 0) pa_nil)))) pss_nil)
      (pss_cons (ps_set (i := 1) sc_law_plain.nd rfl (by first | exact Or.inl rfl | exact Or.inr rfl) (pe_ifExp (pt_cmpR op_gt (pe_ix (r := rIx K) ix_seq (pv 0) (pv 3) (fun _ _ => rfl)) pe_int (nomark _)) (pv 1) (pe_op op_sub pe_int (pv 1))))
      (pss_one (ps_ret (pe_callTy (r := rTupOf K) call_tuple_of (by rfl) bi.tuple (by decide +kernel) (pa_cons (pe_lc (own := [("_law_part", 2)]) (wi := iSq K _) (g := gName 2) (by rfl) sc_law_plain.nd (pi_sq (pv 0)) (blkOk_by (N := N_law_plain) (sc := (defScope st_law_plain)) (by decide +kernel)) (fun _ _ _ _ _ => (pg_name (i := 2) sc_law_plain.nd rfl (by first | exact Or.inl rfl | exact Or.inr rfl))) (fun _ _ _ _ _ => pts_nil) (fun _ _ _ _ _ => (pe_op op_fdivG (pv 2) (pv 1)))) pa_nil))))))))), ?_⟩
  dsimp only at hw hv e k
  have L : (vec n v).length = n := vec_len
  refine s_asg ev_int e eb fun σ1 H1 B1 x1 e1 => ?_
  refine s_for (n := (vec n v).length) (B0 := B) (H0 := H) (Gi := fun i => [.dat (rowD kd n v), .dat (.int (gcdN v i)), .no, .no]) (Φ := fun _ i _ _ => True) (w_sq (item := fun i => .int (v i)) (ev_var rfl) fun i hi => vec_in hi) e1 x1 (fun B1 H1 x1 => ⟨⟨rfl, rfl, trivial, trivial, trivial⟩, trivial⟩) (fun B1 i σ2 B' H' H'' hi X' b' φ x2 e2 => ?_) (fun B1 σ2 B' H' e' X' φ => ?_)
  · rw [L] at hi
    refine s_asg (ev_call (ea_cons (ev_var rfl) (ea_cons (ev_var rfl) ea_nil)) (spD_v (gcdN v i, v i) ⟨gcd_lt hv i (by omega), hv i hi⟩)) e2 x2.le fun σ3 H3 B3 x3 e3 => ?_
    exact ⟨B3, e3.le (by exact ⟨rfl, rfl, trivial, trivial, trivial⟩), (X'.trans x2).trans x3, b'.trans (x2.bb.trans x3.bb), trivial⟩
  · dsimp only at e' ⊢
    rw [L] at e'
    refine s_asg (ev_call (ea_cons (ev_var rfl) ea_nil) (spD_v (⟨kd, n, v⟩ : RowA) hw)) e' X'.le fun σ3 H3 B3 x3 e3 => ?_
    dsimp only at e3
    by_cases nz : Nz n v
    · have hl := nz.isLd
      rw [hl.lead] at e3
      refine s_if (et_test (ev_lt (ev_var rfl) ev_int)) e3 x3.le (fun hb => ?_) (fun hb H4 B4 x4 e4 => ?_)
      · have := of_decide_eq_true hb
        have : ((ld n v : Nat) : Int) < 0 := this
        omega
      · dsimp only [tNext]
        have e4 : Wk.Env K B4 σ3 _ := e4
        obtain ⟨ne, gs⟩ := gcd_small nz hv
        generalize hby : (if v (ld n v) > 0 then gcdN v n else - gcdN v n) = b
        have hb0 : b ≠ 0 ∧ b.natAbs < 2 ^ 9000 := by
          rw [← hby]
          split
          · exact ⟨ne, gs⟩
          · refine ⟨by omega, ?_⟩
            rw [Int.natAbs_neg]
            exact gs
        have hp : La.plain n v = fun i => (v i).fdiv b := by
          unfold La.plain
          simp only [ne, if_false]
          rw [hby]
        have X4 := (X'.trans x3).trans x4
        refine s_asg (t := .dat (.int b)) (ev_if (et_test (ev_gt (ev_ix (ev_var rfl) (ev_var rfl) (show ldI (some (ld n v)) = ((ld n v : Nat) : Int) from rfl) (vec_at hl.lt)) ev_int)) (fun q => (ev_var rfl).cast ?_) fun q => (ev_sub ev_int (ev_var rfl)).cast ?_) e4 x4.le fun σ5 H5 B5 x5 e5 => ?_
        · have q := of_decide_eq_true q
          rw [← hby, if_pos q]
        · have q := of_decide_eq_false q
          rw [← hby, if_neg q, Int.zero_sub]
        · refine s_ret (ev_cb (ea_cons (en_lc (p := fun _ => true) (f := fun i => .int ((v i).fdiv b)) (w_sq (item := fun i => .int (v i)) (ev_var rfl) fun i hi => vec_in hi) (by omega) (by decide) (fun _ _ => et_yes) (fun i hi _ => ev_fdiv (ev_var rfl) (ev_var rfl) ⟨hb0.1, log_lt hb0.2 (by omega)⟩)).dat ea_nil) (cv_tuple (k := true))) e5 x5.le fun u H6 B6 x6 r6 => k u H6 B6 ((X4.trans x5).trans x6) ?_
          rw [hp]
          rw [L, picked_all] at r6
          exact r6
    · have ln : lead v n = none := lead_none.mpr (not_nz.mp nz)
      rw [ln] at e3
      refine s_if (et_test (ev_lt (ev_var rfl) ev_int)) e3 x3.le (fun hb H4 B4 x4 e4 => ?_) (fun hb => ?_)
      · refine s_ret (ev_cb (ea_cons (ev_var rfl) ea_nil) cv_tuple) e4 x4.le fun u H5 B5 x5 r5 => k u H5 B5 (((X'.trans x3).trans x4).trans x5) ?_
        rw [plain_zero nz]
        exact r5
      · cases hb
abbrev spLStruck (K : PySem.W.Frag) : Sp := spD K (fun a : WoA => [rowD a.k1 a.w a.row, rowD a.k2 a.w a.other, .int (a.at_ : Int)]) (fun a => a.w ≤ 9 ∧ a.at_ < a.w ∧ Bt a.w 9000 a.row ∧ Bt a.w 9000 a.other) fun a => rowD true a.w (La.struck a.row a.other a.at_)
include bi in
theorem ok_law_struck {f : Addr} {fd : FuncData} (F : L2.Fun K "_law_struck" "_law_struck" st_law_struck f fd) : FnOk P w K mg base CX0 1 f fd ["_law_line", "_law_own", "_law_at"] (spLStruck K) := by
  refine okD F sc_law_struck (fun _ => rfl) (by decide) fun ⟨k1, k2, n, r, o, t⟩ cdv A outer s H σ Q E B hr ⟨hw, ht, h1, h2⟩ eb e k => ⟨_, (pss_one (ps_ret (pe_lc (own := [("_law_k", 3)]) (wi := _) (g := gName 3) (by rfl) sc_law_struck.nd (pi_range1 (by rfl) bi.range (pa_cons (pe_callB (r := rLenSq K) call_len_seq (by rfl) bi.len (by decide +kernel) (pa_cons (pv 0) pa_nil)) pa_nil)) (blkOk_by (N := N_law_struck) (sc := (defScope st_law_struck)) (by decide +kernel)) (fun _ _ _ _ _ => (pg_name (i := 3) sc_law_struck.nd rfl (by first | exact Or.inl rfl | exact Or.inr rfl))) (fun _ _ _ _ _ => pts_nil) (fun _ _ _ _ _ => (pe_op op_sub (pe_op op_mulW (pe_ix (r := rIx K) ix_seq (pv 0) (pv 3) (fun _ _ => rfl)) (pe_ix (r := rIx K) ix_seq (pv 1) (pv 2) (fun _ _ => rfl))) (pe_op op_mulW (pe_ix (r := rIx K) ix_seq (pv 1) (pv 3) (fun _ _ => rfl)) (pe_ix (r := rIx K) ix_seq (pv 0) (pv 2) (fun _ _ => rfl)))))))), ?_⟩
  dsimp only at hw ht h1 h2 e k
  refine s_ret ((en_lc (p := fun _ => true) (f := fun i => .int (La.struck r o t i)) (w_rng1 (ea_cons ((ev_cb (ea_cons (ev_var rfl) ea_nil) (cv_len (k := k1) (ds := vec n r))).cast (b := .int (n : Int)) (by rw [vec_len])) ea_nil) ⟨by omega, by omega⟩) (by omega) (by decide) (fun _ _ => et_yes) (fun i hi _ => ?_)).dat.cast (b := rowD true n (La.struck r o t)) ?_) e eb fun u H5 B5 x5 r5 => k u H5 B5 x5 r5
  · have hi : i < n := by omega
    exact ev_sub (ev_mul (ev_ix (ev_var rfl) (ev_var rfl) rfl (vec_at hi)) (ev_ix (ev_var rfl) (ev_var rfl) rfl (vec_at ht)) (mul9 (h1 i hi) (h2 t ht))) (ev_mul (ev_ix (ev_var rfl) (ev_var rfl) rfl (vec_at hi)) (ev_ix (ev_var rfl) (ev_var rfl) rfl (vec_at ht)) (mul9 (h2 i hi) (h1 t ht)))
  · rw [picked_all]
    rfl
end
end At
-- V21
namespace At
open PySem PySem.Spec PyProof.Rows L2 Wk La
abbrev st_law_reduced : Stmt := topS 56
abbrev N_law_reduced : List Str := ["_law_lines_here", "_law_wide", "_law_at", "_law_left", "_law_found", "_law_some", "_law_own", "_law_rest", "_law_line"]
theorem sc_law_reduced : FnScope N_law_reduced ["_law_lines_here"] (defScope st_law_reduced) := ⟨rfl, rfl, rfl, by decide +kernel, rfl, by decide +kernel, by decide +kernel⟩
def Sh (n : Nat) (d : D) : Prop := d.canLay0 = true ∧ d.depth ≤ n
theorem Sh.shaped {n : Nat} {d : D} (h : Sh n d) (hn : n ≤ 64) : SeqAt.shaped d = true := by
  unfold SeqAt.shaped
  rw [h.1, decide_eq_true (Nat.le_trans h.2 hn)]
  rfl
theorem sh_all {n : Nat} : ∀ {ds : List D}, (∀ d ∈ ds, Sh n d) → PyData.canLayAll0 ds = true ∧ PyData.depthAll ds ≤ n
  | [], _ => ⟨rfl, Nat.zero_le _⟩
  | d :: ds, h => by
    obtain ⟨a, b⟩ := sh_all (ds := ds) fun x hx => h x (List.mem_cons_of_mem _ hx)
    obtain ⟨c, e⟩ := h d List.mem_cons_self
    unfold PyData.canLayAll0 PyData.depthAll
    rw [a, c]
    exact ⟨rfl, Nat.max_le.mpr ⟨e, b⟩⟩
theorem sh_sq {n : Nat} {k : Bool} {ds : List D} (h : ∀ d ∈ ds, Sh n d) : Sh (n + 1) (sqD k ds) := by
  obtain ⟨a, b⟩ := sh_all h
  cases k with
  | true => exact ⟨by show PyData.canLay0 (.list ds) = true; unfold PyData.canLay0; exact a, by show PyData.depth (.list ds) ≤ _; unfold PyData.depth; omega⟩
  | false => exact ⟨by show PyData.canLay0 (.tuple ds) = true; unfold PyData.canLay0; exact a, by show PyData.depth (.tuple ds) ≤ _; unfold PyData.depth; omega⟩
theorem sh_int {i : Int} : Sh 0 (.int i) := ⟨rfl, Nat.le_refl 0⟩
theorem sh_row {k : Bool} {w : Nat} {v : Vec} : Sh 1 (rowD k w v) := sh_sq fun d hd => by
  obtain ⟨i, _, rfl⟩ := List.mem_map.mp hd
  exact sh_int
theorem sh_rows {kk k : Bool} {w : Nat} {R : List Vec} : Sh 2 (rowsD kk k w R) := sh_sq fun d hd => by
  obtain ⟨i, _, rfl⟩ := List.mem_map.mp hd
  exact sh_row
theorem sh_nil : Sh 1 (.list []) := sh_sq (k := true) (n := 0) fun d hd => nomatch hd
theorem eqv_nil {ds : List D} : PyData.eqv (.list ds) (.list []) = ds.isEmpty := by
  cases ds with
  | nil => rfl
  | cons a t => unfold PyData.eqv; rfl
section
variable {K : PySem.W.Frag} {G : Gam} {te : TE} {ds : List D} {n : Nat}
/-- l != [] -/
theorem et_some (h : ED K te G (.list ds)) (s : Sh n (.list ds)) (hn : n ≤ 64) : EvT K (tTest (tOp (rNeD K) te (tLst tNil))) G (!ds.isEmpty) :=
  (et_test (ev_ne h (en_lst ea_nil (by simp)).dat (s.shaped hn) (sh_nil.shaped (by decide)))).cast (by rw [eqv_nil])
end
section
variable {K : PySem.W.Frag} {G : Gam} {te : TE} {k : Bool} {w : Nat} {R : List Vec}
theorem et_rows (h : ED K te G (rowsD true k w R)) : EvT K (tTest (tOp (rNeD K) te (tLst tNil))) G (!R.isEmpty) := (et_some (n := 2) (ds := R.map (rowD k w)) h (sh_rows (kk := true)) (by decide)).cast (by cases R <;> rfl)
end
/-- rows of any kinds -/
def rowsB (w : Nat) (L : List (Bool × Vec)) : D := .list (L.map fun p => rowD p.1 w p.2)
def bvd : Bool × Vec := (false, fun _ => 0)
theorem rowsB_in {w : Nat} {L : List (Bool × Vec)} {i : Nat} (h : i < (L.map fun p => rowD p.1 w p.2).length) : (L.map fun p => rowD p.1 w p.2)[i]? = some (rowD (L.getD i bvd).1 w (L.getD i bvd).2) := by
  rw [List.length_map] at h
  rw [List.getElem?_map, List.getD_eq_getElem?_getD, List.getElem?_eq_getElem h]
  rfl
theorem ldI_ge {w : Nat} {v : Vec} : decide ((0 : Int) ≤ ldI (lead v w)) = some? w v := by
  unfold some?
  cases lead v w with
  | none => rfl
  | some i => exact decide_eq_true (Int.natCast_nonneg i)
theorem st_len {n : Nat} {st : List Vec × List Vec} {t : Nat} : (stage n st t).1.length ≤ st.1.length ∧ (stage n st t).2.length ≤ st.2.length + 1 := by
  unfold stage
  cases st.1.filter fun line => decide (line t ≠ 0) with
  | nil => exact ⟨Nat.le_refl _, Nat.le_succ _⟩
  | cons own tl =>
    dsimp only
    rw [List.length_map, List.length_append, List.length_map]
    refine ⟨?_, Nat.le_refl _⟩
    have := List.length_filter_le (some? n) (restL n st.1 own t)
    unfold restL at *
    rw [List.length_map] at this
    exact this
theorem sts_len {n : Nat} {l : List Vec} : ∀ t, ((List.range t).foldl (stage n) (l, [])).1.length ≤ l.length ∧ ((List.range t).foldl (stage n) (l, [])).2.length ≤ t
  | 0 => ⟨Nat.le_refl _, Nat.le_refl _⟩
  | t + 1 => by
    rw [List.range_succ, List.foldl_append]
    have ih := sts_len (n := n) (l := l) t
    have s := st_len (n := n) (st := (List.range t).foldl (stage n) (l, [])) (t := t)
    simp only [List.foldl_cons, List.foldl_nil]
    omega
theorem filt_rows {R : List Vec} {h : Vec → Bool} {f : Vec → D} : picked R.length (fun i => h (La.row R i)) (fun i => f (La.row R i)) = (R.filter h).map f := picked_list (l := R) (dd := fun _ => 0)
section
variable {P : Program} {w : World} {K : PySem.W.Frag} {mg : Str → Option Value} {base : Heap} (bi : Bi mg)
/-- [plain(line) for line in l if lead(line) >= 0] -/
theorem en_plains {G : Gam} {te : TE} {n : Nat} {L : List (Bool × Vec)} {j : Nat} {vs : List Nat} (hn : n ≤ 9) (hL : L.length ≤ 1000) (h : ED K te G (rowsB n L)) (hv : j ∈ vs) (hj : j < G.length) (hb : ∀ p ∈ L, some? n p.2 = true → Bt n 9000 p.2) :
    EvN K (tLc (iSq K te) (gName j) (tTest (tOp (rI0 fun i j => V.bl (decide (j ≤ i))) (tCall (spLLead K) [] E0 (tCons (tVar j) tNil)) (tC (.int 0)))) (tCall (spLPlain K) [] E0 (tCons (tVar j) tNil)) vs) G ((((L.map Prod.snd).filter (some? n)).map (La.plain n)).map (rowD false n)) := by
  have len : ∀ vs : List Nat, (wipeG G vs).length = G.length := fun vs => by
    induction vs with
    | nil => rfl
    | cons v vs ih => show ((wipeG G vs).set v .no).length = _; rw [List.length_set, ih]
  have at_ : ∀ {d : D}, ((wipeG G vs).set j (.dat d))[j]? = some (.dat d) := fun {d} => List.getElem?_set_self (by rw [len]; exact hj)
  refine (en_lc (p := fun i => some? n (L.getD i bvd).2) (f := fun i => rowD false n (La.plain n (L.getD i bvd).2)) (w_sq (k := true) (item := fun i => rowD (L.getD i bvd).1 n (L.getD i bvd).2) h fun i hi => rowsB_in hi) (by rw [List.length_map]; omega) (fun x hx => by rw [List.mem_singleton.mp hx]; exact hv) (fun i hi => (et_test (ev_ge (ev_call (ea_cons (ev_var at_) ea_nil) (spD_v (⟨(L.getD i bvd).1, n, (L.getD i bvd).2⟩ : RowA) hn)) ev_int)).cast ldI_ge) (fun i hi hp => ev_call (ea_cons (ev_var at_) ea_nil) (spD_v (⟨(L.getD i bvd).1, n, (L.getD i bvd).2⟩ : RowA) ⟨hn, hb _ ?_ hp⟩))).cast ?_
  · rw [List.length_map, picked_list (l := L) (dd := bvd) (h := fun p => some? n p.2) (f := fun p => rowD false n (La.plain n p.2)), List.filter_map, List.map_map, List.map_map]
    rfl
  · rw [List.length_map] at hi
    rw [List.getD_eq_getElem?_getD, List.getElem?_eq_getElem hi]
    exact List.getElem_mem hi
abbrev spLReduced (K : PySem.W.Frag) : Sp := spD K (fun a : RdA => [rowsD true a.k a.w a.rows]) (fun a => a.w ≤ 9 ∧ LrFine a.w a.rows ∧ a.rows.length ≤ 100) fun a => rowsD true false a.w (reducedL a.w a.rows)
include bi in
theorem ok_law_reduced {f : Addr} {fd : FuncData} (F : L2.Fun K "_law_reduced" "_law_reduced" st_law_reduced f fd) (c_law_plain : Wk.Cal P w K mg base 2 "_law_plain" (spLPlain K)) (c_law_lead : Wk.Cal P w K mg base 1 "_law_lead" (spLLead K)) (c_law_struck : Wk.Cal P w K mg base 1 "_law_struck" (spLStruck K)) : FnOk P w K mg base CX0 3 f fd ["_law_lines_here"] (spLReduced K) := by
  refine okD F sc_law_reduced (fun _ => rfl) (by decide) fun ⟨_, kd, n, R⟩ cdv A outer s H σ Q E B hr ⟨hw, ⟨hf0, hf⟩, hl⟩ eb e k => ⟨_, (pss_cons (ps_par (i := 3) (j := 4) (by rfl) sc_law_reduced.nd rfl rfl (by decide) rfl rfl (pa_cons (pe_lc (own := [("_law_line", 8)]) (wi := iSq K _) (g := gName 8) (by rfl) sc_law_reduced.nd (pi_sq (pv 0)) (blkOk_by (N := N_law_reduced) (sc := (defScope st_law_reduced)) (by decide +kernel)) (fun _ _ _ _ _ => (pg_name (i := 8) sc_law_reduced.nd rfl (by first | exact Or.inl rfl | exact Or.inr rfl))) (fun _ _ _ _ _ => pts_one (pt_cmpR op_ge (pe_cal c_law_lead hr (by decide) (by rfl) (pa_cons (pv 8) pa_nil)) pe_int (nomark _))) (fun _ _ _ _ _ => (pe_cal c_law_plain hr (by decide) (by rfl) (pa_cons (pv 8) pa_nil)))) (pa_cons (pe_lst pa_nil) pa_nil)) (by rfl))
      (pss_cons (ps_set (i := 1) sc_law_reduced.nd rfl (by first | exact Or.inl rfl | exact Or.inr rfl) (pe_ifExp (pt_cmpR (r := rNeD K) (op_neD hr.units) (pv 3) (pe_lst pa_nil) (nomark _)) (pe_callB (r := rLenSq K) call_len_seq (by rfl) bi.len (by decide +kernel) (pa_cons (pe_ix (r := rIx K) ix_seq (pv 3) pe_int (fun _ _ => rfl)) pa_nil)) pe_int))
      (pss_cons (ps_for PassesOwn.never (by rfl) (pi_range1 (by rfl) bi.range (pa_cons (pv 1) pa_nil)) (pg_name (i := 2) sc_law_reduced.nd rfl (by first | exact Or.inl rfl | exact Or.inr rfl)) (pss_cons (ps_setLc (own := [("_law_line", 8)]) (wi := iSq K _) (g := gName 8) (i := 5) rfl sc_law_reduced.nd rfl rfl rfl (pi_sq (pv 3)) (blkOk_by (N := N_law_reduced) (sc := (defScope st_law_reduced)) (by decide +kernel)) (fun _ _ _ _ _ => (pg_name (i := 8) sc_law_reduced.nd rfl (by first | exact Or.inl rfl | exact Or.inr rfl))) (fun _ _ _ _ _ => pts_one (pt_cmpR (r := rNeD K) (op_neD hr.units) (pe_ix (r := rIx K) ix_seq (pv 8) (pv 2) (fun _ _ => rfl)) pe_int (nomark _))) (fun _ _ _ _ _ => (pv 8)))
      (pss_one (ps_if (pt_cmpR (r := rNeD K) (op_neD hr.units) (pv 5) (pe_lst pa_nil) (nomark _)) (pss_cons (ps_set (i := 6) sc_law_reduced.nd rfl (by first | exact Or.inl rfl | exact Or.inr rfl) (pe_ix (r := rIx K) ix_seq (pv 5) pe_int (fun _ _ => rfl)))
      (pss_cons (ps_setLc (own := [("_law_line", 8)]) (wi := iSq K _) (g := gName 8) (i := 7) rfl sc_law_reduced.nd rfl rfl rfl (pi_sq (pv 3)) (blkOk_by (N := N_law_reduced) (sc := (defScope st_law_reduced)) (by decide +kernel)) (fun _ _ _ _ _ => (pg_name (i := 8) sc_law_reduced.nd rfl (by first | exact Or.inl rfl | exact Or.inr rfl))) (fun _ _ _ _ _ => pts_nil) (fun _ _ _ _ _ => (pe_ifExp (pt_cmpR (r := rNeD K) (op_neD hr.units) (pe_ix (r := rIx K) ix_seq (pv 8) (pv 2) (fun _ _ => rfl)) pe_int (nomark _)) (pe_cal c_law_struck hr (by decide) (by rfl) (pa_cons (pv 8) (pa_cons (pv 6) (pa_cons (pv 2) pa_nil)))) (pv 8))))
      (pss_cons (ps_setLc (own := [("_law_line", 8)]) (wi := iSq K _) (g := gName 8) (i := 3) rfl sc_law_reduced.nd rfl rfl rfl (pi_sq (pv 7)) (blkOk_by (N := N_law_reduced) (sc := (defScope st_law_reduced)) (by decide +kernel)) (fun _ _ _ _ _ => (pg_name (i := 8) sc_law_reduced.nd rfl (by first | exact Or.inl rfl | exact Or.inr rfl))) (fun _ _ _ _ _ => pts_one (pt_cmpR op_ge (pe_cal c_law_lead hr (by decide) (by rfl) (pa_cons (pv 8) pa_nil)) pe_int (nomark _))) (fun _ _ _ _ _ => (pe_cal c_law_plain hr (by decide) (by rfl) (pa_cons (pv 8) pa_nil))))
      (pss_one (ps_set (i := 4) sc_law_reduced.nd rfl (by first | exact Or.inl rfl | exact Or.inr rfl) (pe_op op_cat (pe_lc (own := [("_law_line", 8)]) (wi := iSq K _) (g := gName 8) (by rfl) sc_law_reduced.nd (pi_sq (pv 4)) (blkOk_by (N := N_law_reduced) (sc := (defScope st_law_reduced)) (by decide +kernel)) (fun _ _ _ _ _ => (pg_name (i := 8) sc_law_reduced.nd rfl (by first | exact Or.inl rfl | exact Or.inr rfl))) (fun _ _ _ _ _ => pts_nil) (fun _ _ _ _ _ => (pe_ifExp (pt_cmpR (r := rNeD K) (op_neD hr.units) (pe_ix (r := rIx K) ix_seq (pv 8) (pv 2) (fun _ _ => rfl)) pe_int (nomark _)) (pe_cal c_law_plain hr (by decide) (by rfl) (pa_cons (pe_cal c_law_struck hr (by decide) (by rfl) (pa_cons (pv 8) (pa_cons (pv 6) (pa_cons (pv 2) pa_nil)))) pa_nil)) (pv 8)))) (pe_lst (pa_cons (pv 6) pa_nil)))))))) pss_nil))))
      (pss_one (ps_ret (pv 4)))))), ?_⟩
  dsimp only at hw hf0 hf hl e k
  let L0 : List (Bool × Vec) := R.map fun v => (kd, v)
  have L0s : L0.map Prod.snd = R := by
    show (R.map fun v => (kd, v)).map Prod.snd = R
    rw [List.map_map]
    exact List.map_id R
  have L0d : rowsD true kd n R = rowsB n L0 := by
    show PyData.list _ = PyData.list _
    show PyData.list (R.map (rowD kd n)) = PyData.list ((R.map fun v => (kd, v)).map fun p => rowD p.1 n p.2)
    rw [List.map_map]
    rfl
  have l0 : (left0 n R).length ≤ 100 := by
    unfold left0
    rw [List.length_map]
    have := List.length_filter_le (some? n) R
    omega
  refine s_parE (t := .dat (rowsD true false n (left0 n R))) ((en_plains hw (L := L0) (by show (R.map _).length ≤ 1000; rw [List.length_map]; omega) ((ev_var rfl).cast L0d) (by decide) (show 8 < 9 by decide) (fun p hp _ => ?_)).dat.cast (by rw [L0s]; rfl)) (en_lst ea_nil (by simp)).dat e eb fun σ1 H1 B1 x1 e1 => ?_
  · obtain ⟨v, hv, rfl⟩ := List.mem_map.mp hp
    exact hf0 v hv
  generalize hW : (if (left0 n R).isEmpty then 0 else n) = W
  have ek : reducedL n R = ((List.range W).foldl (stage n) (left0 n R, [])).2 := by unfold reducedL; rw [hW]
  rw [ek] at k
  generalize left0 n R = l at *
  have ll : (l.map (rowD false n)).length = l.length := List.length_map ..
  have W9 : W ≤ 9 := by rw [← hW]; split <;> omega
  refine s_asg (t := .dat (.int (W : Int))) (ev_if (et_rows (R := l) (ev_var rfl)) (fun hb => (ev_cb (ea_cons (ev_ix (k := true) (n := 0) (ev_var rfl) ev_int rfl (row_at (R := l) (f := rowD false n) ?_)) ea_nil) (cv_len (k := false) (ds := vec n (La.row l 0)))).cast ?_) fun hb => ev_int.cast ?_) e1 x1.le fun σ2 H2 B2 x2 e2 => ?_
  · have hb : (!l.isEmpty) = true := hb
    cases l with
    | nil => cases hb
    | cons a t => exact Nat.succ_pos _
  · have hb : (!l.isEmpty) = true := hb
    rw [vec_len, ← hW]
    cases l with
    | nil => cases hb
    | cons a t => rfl
  · have hb : (!l.isEmpty) = false := hb
    rw [← hW]
    cases l with
    | nil => rfl
    | cons a t => cases hb
  have X2 := x1.trans x2
  let st : Nat → List Vec × List Vec := fun t => (List.range t).foldl (stage n) (l, [])
  refine s_for (n := ((W : Int)).toNat) (B0 := B) (H0 := H) (Gi := fun t => [.dat (rowsD true kd n R), .dat (.int (W : Int)), .no, .dat (rowsD true false n (st t).1), .dat (rowsD true false n (st t).2), .no, .no, .no, .no]) (Φ := fun _ _ _ _ => True) (w_rng1 (ea_cons (ev_var rfl) ea_nil) ⟨by omega, by omega⟩) e2 X2 (fun B3 H3 x3 => ⟨⟨rfl, rfl, trivial, rfl, rfl, trivial, trivial, trivial, trivial, trivial⟩, trivial⟩) (fun B3 t σ4 B4 H4 H5 ht X4 b4 _ x5 e4 => ?_) (fun B3 σ4 B4 H4 e4 X4 _ => ?_)
  · have ht : t < W := by omega
    have hn : t < n := by
      rw [← hW] at ht
      split at ht <;> omega
    have sl := sts_len (n := n) (l := l) t
    obtain ⟨f1, f2, f3⟩ := hf t hn
    have nx : st (t + 1) = stage n (st t) t := by
      show (List.range (t + 1)).foldl _ _ = _
      rw [List.range_succ, List.foldl_append]
      rfl
    have sl : (st t).1.length ≤ l.length ∧ (st t).2.length ≤ t := sl
    have f1 : ∀ x ∈ (st t).1, Bt n 9000 x := f1
    have f2 : ∀ x ∈ (st t).2, Bt n 9000 x := f2
    have f3 : ∀ own ∈ (st t).1, own t ≠ 0 → (∀ x ∈ (st t).1, Bt n 9000 (La.struck x own t)) ∧ ∀ x ∈ (st t).2, Bt n 9000 (La.struck x own t) := f3
    generalize st (t + 1) = s' at nx ⊢
    generalize st t = s at nx f1 f2 f3 sl e4 ⊢
    obtain ⟨lf, fd⟩ := s
    dsimp only at f1 f2 f3 sl e4
    have Ll : (lf.map (rowD false n)).length = lf.length := List.length_map ..
    have Lf : (fd.map (rowD false n)).length = fd.length := List.length_map ..
    refine s_asg ((en_lc (p := fun i => decide (La.row lf i t ≠ 0)) (f := fun i => rowD false n (La.row lf i)) (w_sq (k := true) (item := fun i => rowD false n (La.row lf i)) (ev_var rfl) fun i hi => row_in hi) (by omega) (by decide) (fun i hi => (et_test (ev_neI (ev_ix (ev_var rfl) (ev_var rfl) rfl (vec_at hn)) ev_int)).cast (by rw [decide_not, Bool.beq_eq_decide_eq])) (fun i hi _ => ev_var rfl)).dat.cast (b := rowsD true false n (lf.filter fun x => decide (x t ≠ 0))) (by rw [Ll, filt_rows (h := fun x => decide (x t ≠ 0)) (f := rowD false n)]; rfl)) e4 x5.le fun σ6 H6 B6 x6 e6 => ?_
    have x56 := x5.trans x6
    have es : stage n (lf, fd) t = match lf.filter fun x => decide (x t ≠ 0) with
      | [] => (lf, fd)
      | own :: _ => (((restL n lf own t).filter (some? n)).map (La.plain n), fd.map (fun x => if x t ≠ 0 then La.plain n (La.struck x own t) else x) ++ [own]) := rfl
    rw [es] at nx
    cases hs : lf.filter fun x => decide (x t ≠ 0) with
    | nil =>
      rw [hs] at e6 nx
      refine s_if (et_rows (R := []) (ev_var rfl)) e6 x6.le (fun hb => nomatch hb) fun hb H7 B7 x7 e7 => ?_
      dsimp only [tNext]
      rw [nx]
      refine ⟨B7, e7.le ?_, (X4.trans x56).trans x7, b4.trans (x56.bb.trans x7.bb), trivial⟩
      exact ⟨rfl, rfl, trivial, rfl, rfl, trivial, trivial, trivial, trivial, trivial⟩
    | cons own tl =>
      rw [hs] at e6 nx
      have ho : own ∈ lf.filter fun x => decide (x t ≠ 0) := by rw [hs]; exact List.mem_cons_self
      have hol := (List.mem_filter.mp ho).1
      have hoa : own t ≠ 0 := of_decide_eq_true (List.mem_filter.mp ho).2
      obtain ⟨g1, g2⟩ := f3 own hol hoa
      refine s_if (et_rows (R := own :: tl) (ev_var rfl)) e6 x6.le (fun hb H7 B7 x7 e7 => ?_) fun hb => nomatch hb
      refine s_asg (ev_ix (k := true) (n := 0) (d := rowD false n own) (ev_var rfl) ev_int rfl rfl) e7 x7.le fun σ8 H8 B8 x8 e8 => ?_
      let Lr : List (Bool × Vec) := lf.map fun x => (decide (x t ≠ 0), if x t ≠ 0 then La.struck x own t else x)
      have Lrs : Lr.map Prod.snd = restL n lf own t := by
        show (lf.map _).map Prod.snd = lf.map _
        rw [List.map_map]
        rfl
      have strk : ∀ {G : Gam} {te to : TE} {x : Vec}, ED K te G (rowD false n x) → ED K to G (rowD false n own) → Bt n 9000 x → Bt n 9000 own → G[2]? = some (.dat (.int (t : Int))) → ED K (tCall (spLStruck K) [] E0 (tCons te (tCons to (tCons (tVar 2) tNil)))) G (rowD true n (La.struck x own t)) := fun h1 h2 b1 b2 h3 => ev_call (ea_cons h1 (ea_cons h2 (ea_cons (ev_var h3) ea_nil))) (spD_v (⟨false, false, n, _, own, t⟩ : WoA) ⟨hw, hn, b1, b2⟩)
      have nz : ∀ {x : Int}, (!(x == 0)) = decide (x ≠ 0) := fun {x} => by rw [decide_not, Bool.beq_eq_decide_eq]
      refine s_asg ((en_lc (p := fun _ => true) (f := fun i => rowD (decide (La.row lf i t ≠ 0)) n (if La.row lf i t ≠ 0 then La.struck (La.row lf i) own t else La.row lf i)) (w_sq (k := true) (item := fun i => rowD false n (La.row lf i)) (ev_var rfl) fun i hi => row_in hi) (by omega) (by decide) (fun _ _ => et_yes) (fun i hi _ => ev_if (et_test (ev_neI (ev_ix (ev_var rfl) (ev_var rfl) rfl (vec_at hn)) ev_int)) (fun q => (strk (ev_var rfl) (ev_var rfl) (f1 _ (row_mem (by omega))) (f1 own hol) rfl).cast ?_) fun q => (ev_var rfl).cast ?_)).dat.cast (b := rowsB n Lr) ?_) e8 x8.le fun σ9 H9 B9 x9 e9 => ?_
      · rw [nz] at q
        have q := of_decide_eq_true q
        rw [decide_eq_true q, if_pos q]
      · rw [nz] at q
        have q := of_decide_eq_false q
        rw [decide_eq_false q, if_neg q]
      · rw [Ll, picked_all, row_map (f := fun x => rowD (decide (x t ≠ 0)) n (if x t ≠ 0 then La.struck x own t else x))]
        show PyData.list _ = PyData.list (Lr.map _)
        show _ = PyData.list ((lf.map _).map _)
        rw [List.map_map]
        rfl
      · refine s_asg (en_plains hw (L := Lr) (by show (lf.map _).length ≤ 1000; rw [List.length_map]; omega) (ev_var rfl) (by decide) (show 8 < 9 by decide) (fun p hp _ => ?_)).dat e9 x9.le fun σ10 H10 B10 x10 e10 => ?_
        · obtain ⟨x, hx, rfl⟩ := List.mem_map.mp hp
          dsimp only
          split
          · exact g1 x hx
          · exact f1 x hx
        · rw [Lrs] at e10
          refine s_asg (en_cat (ds := (fd.map fun x => if x t ≠ 0 then La.plain n (La.struck x own t) else x).map (rowD false n)) (es := [rowD false n own]) (((en_lc (p := fun _ => true) (f := fun i => rowD false n (if La.row fd i t ≠ 0 then La.plain n (La.struck (La.row fd i) own t) else La.row fd i)) (w_sq (k := true) (item := fun i => rowD false n (La.row fd i)) (ev_var rfl) fun i hi => row_in hi) (by omega) (by decide) (fun _ _ => et_yes) (fun i hi _ => ev_if (et_test (ev_neI (ev_ix (ev_var rfl) (ev_var rfl) rfl (vec_at hn)) ev_int)) (fun q => (ev_call (ea_cons (strk (ev_var rfl) (ev_var rfl) (f2 _ (row_mem (by omega))) (f1 own hol) rfl) ea_nil) (spD_v (⟨true, n, La.struck (La.row fd i) own t⟩ : RowA) ⟨hw, g2 _ (row_mem (by omega))⟩)).cast ?_) fun q => (ev_var rfl).cast ?_)).cast ?_).liv) (en_lst (ea_cons (ev_var rfl) ea_nil) (by simp)).liv (by rw [List.length_map, List.length_map]; simp only [List.length_singleton]; omega)).dat e10 x10.le fun σ11 H11 B11 x11 e11 => ?_
          · rw [nz] at q
            have q := of_decide_eq_true q
            rw [if_pos q]
          · rw [nz] at q
            have q := of_decide_eq_false q
            rw [if_neg q]
          · rw [Lf, picked_all, row_map (f := fun x => rowD false n (if x t ≠ 0 then La.plain n (La.struck x own t) else x)), List.map_map]
            rfl
          · rw [nx]
            have x711 := (((x7.trans x8).trans x9).trans x10).trans x11
            refine ⟨B11, e11.le ?_, (X4.trans x56).trans x711, b4.trans (x56.bb.trans x711.bb), trivial⟩
            refine ⟨rfl, rfl, trivial, rfl, ?_, trivial, trivial, trivial, trivial, trivial⟩
            show PyData.list _ = PyData.list _
            rw [List.map_append]
            rfl
  · dsimp only at e4 ⊢
    exact s_ret (ev_var rfl) e4 X4.le fun u H5 B5 x5 r5 => k u H5 B5 (X4.trans x5) r5
end
end At
-- V22
namespace At
open PySem PySem.Spec PyProof.Rows L2 Wk La
abbrev st_law_nulls : Stmt := topS 57
abbrev N_law_nulls : List Str := ["_law_lines_here", "_law_wide", "_law_basis", "_law_leads", "_law_found", "_law_free", "_law_bottom", "_law_line", "_law_some", "_law_k", "_law_at"]
theorem sc_law_nulls : FnScope N_law_nulls ["_law_lines_here", "_law_wide"] (defScope st_law_nulls) := ⟨rfl, rfl, rfl, by decide +kernel, rfl, by decide +kernel, by decide +kernel⟩
section
variable {K : PySem.W.Frag} {G : Gam} {ta tb : TE} {ds : List D} {x : Int}
theorem en_rep (ha : Ev K ta G (.liv ds)) (hb : ED K tb G (.int x)) (hx : 0 ≤ x ∧ x ≤ 100000) (hl : ds.length ≤ 1) : EvN K (tOp rRep ta tb) G (List.replicate x.toNat ds).flatten := fun σ B H e eb Q k => ha σ B H e eb _ fun v H1 B1 x1 r1 => hb σ B1 H1 (e.mono x1.bb) x1.le _ fun u H2 B2 x2 r2 => by
  obtain ⟨p, xs, z, s, rx⟩ := r1
  cases z
  rw [dp_int (dat_ok r2)]
  have len := dps_len rx
  refine ⟨p, x, xs, rfl, rfl, x2.ex p _ (x1.le p _ s), by omega, by omega, ?_, fun q hq => ?_⟩
  · have : xs.length * x.toNat ≤ 1 * x.toNat := Nat.mul_le_mul_right _ (by omega)
    exact Evl.sz_of (by omega)
  · have rep : ∀ m, DpAll K B2 (List.replicate m xs).flatten (List.replicate m ds).flatten := fun m => by
      induction m with
      | zero => exact .nil
      | succ m ih =>
        rw [List.replicate_succ, List.replicate_succ, List.flatten_cons, List.flatten_cons]
        exact dps_app (dps_mono x2.bb _ rx) ih
    exact k q _ _ B2 (Evl.fresh_back (x1.trans x2).ex hq) ((x1.trans x2).trans (Ext.hide x2.le hq)) upd_same (Evl.fresh_back x2.le hq) (rep _)
end
theorem rep_zero {n : Nat} : (List.replicate n [PyData.int 0]).flatten = vec n fun _ => 0 := by
  unfold vec
  induction n with
  | zero => rfl
  | succ n ih =>
    rw [List.replicate_succ', List.flatten_append, ih, List.range_succ, List.map_append]
    rfl
section
variable {P : Program} {w : World} {K : PySem.W.Frag} {mg : Str → Option Value} {base : Heap} (bi : Bi mg)
abbrev spLNulls (K : PySem.W.Frag) : Sp := spD K (fun a : NuA => [rowsD a.kk a.k a.w a.rows, .int (a.w : Int)]) (fun a => a.w ≤ 9 ∧ NullLFine a.w a.rows ∧ a.rows.length ≤ 100) fun a => rowsD true false a.w (nullsL a.w a.rows)
include bi in
theorem ok_law_nulls {f : Addr} {fd : FuncData} (F : L2.Fun K "_law_nulls" "_law_nulls" st_law_nulls f fd) (c_law_reduced : Wk.Cal P w K mg base 3 "_law_reduced" (spLReduced K)) (c_law_lead : Wk.Cal P w K mg base 1 "_law_lead" (spLLead K)) : FnOk P w K mg base CX0 4 f fd ["_law_lines_here", "_law_wide"] (spLNulls K) := by
  refine okD F sc_law_nulls (fun _ => rfl) (by decide) fun ⟨kk, kd, n, rows⟩ cdv A outer s H σ Q E B hr ⟨hw, ⟨f1, f2, f3, f4⟩, hl⟩ eb e k => ⟨_, (pss_cons (ps_set (i := 2) sc_law_nulls.nd rfl (by first | exact Or.inl rfl | exact Or.inr rfl) (pe_cal c_law_reduced hr (by decide) (by rfl) (pa_cons (pe_callTy (r := rListOf K) call_list_of (by rfl) bi.list (by decide +kernel) (pa_cons (pv 0) pa_nil)) pa_nil)))
      (pss_cons (ps_set (i := 3) sc_law_nulls.nd rfl (by first | exact Or.inl rfl | exact Or.inr rfl) (pe_lc (own := [("_law_line", 7)]) (wi := iSq K _) (g := gName 7) (by rfl) sc_law_nulls.nd (pi_sq (pv 2)) (blkOk_by (N := N_law_nulls) (sc := (defScope st_law_nulls)) (by decide +kernel)) (fun _ _ _ _ _ => (pg_name (i := 7) sc_law_nulls.nd rfl (by first | exact Or.inl rfl | exact Or.inr rfl))) (fun _ _ _ _ _ => pts_nil) (fun _ _ _ _ _ => (pe_cal c_law_lead hr (by decide) (by rfl) (pa_cons (pv 7) pa_nil)))))
      (pss_cons (ps_set (i := 4) sc_law_nulls.nd rfl (by first | exact Or.inl rfl | exact Or.inr rfl) (pe_lst pa_nil))
      (pss_cons (ps_for PassesOwn.never (by rfl) (pi_sq (pe_lc (own := [("_law_k", 9)]) (wi := _) (g := gName 9) (by rfl) sc_law_nulls.nd (pi_range1 (by rfl) bi.range (pa_cons (pv 1) pa_nil)) (blkOk_by (N := N_law_nulls) (sc := (defScope st_law_nulls)) (by decide +kernel)) (fun _ _ _ _ _ => (pg_name (i := 9) sc_law_nulls.nd rfl (by first | exact Or.inl rfl | exact Or.inr rfl))) (fun _ _ _ _ _ => pts_one (pt_cmpR (r := rIn K true) op_notIn_seq (pv 9) (pv 3) (by rfl))) (fun _ _ _ _ _ => (pv 9)))) (pg_name (i := 5) sc_law_nulls.nd rfl (by first | exact Or.inl rfl | exact Or.inr rfl)) (pss_cons (ps_set (i := 6) sc_law_nulls.nd rfl (by first | exact Or.inl rfl | exact Or.inr rfl) pe_int)
      (pss_cons (ps_for PassesOwn.never (by rfl) (pi_sq (pv 2)) (pg_name (i := 7) sc_law_nulls.nd rfl (by first | exact Or.inl rfl | exact Or.inr rfl)) (pss_one (ps_set (i := 6) sc_law_nulls.nd rfl (by first | exact Or.inl rfl | exact Or.inr rfl) (pe_op op_mulW (pv 6) (pe_ix (r := rIx K) ix_seq (pv 7) (pe_cal c_law_lead hr (by decide) (by rfl) (pa_cons (pv 7) pa_nil)) (fun _ _ => rfl))))))
      (pss_cons (ps_set (i := 8) sc_law_nulls.nd rfl (by first | exact Or.inl rfl | exact Or.inr rfl) (pe_op op_rep (pe_lst (pa_cons pe_int pa_nil)) (pv 1)))
      (pss_cons (ps_asg (pv 6) (pg_sub (pv 8) (pv 5) set_list))
      (pss_cons (ps_for PassesOwn.never (by rfl) (pi_sq (pv 2)) (pg_name (i := 7) sc_law_nulls.nd rfl (by first | exact Or.inl rfl | exact Or.inr rfl)) (pss_cons (ps_set (i := 10) sc_law_nulls.nd rfl (by first | exact Or.inl rfl | exact Or.inr rfl) (pe_cal c_law_lead hr (by decide) (by rfl) (pa_cons (pv 7) pa_nil)))
      (pss_one (ps_asg (pe_op op_sub pe_int (pe_op op_mulW (pe_ix (r := rIx K) ix_seq (pv 7) (pv 5) (fun _ _ => rfl)) (pe_op op_fdivG (pv 6) (pe_ix (r := rIx K) ix_seq (pv 7) (pv 10) (fun _ _ => rfl))))) (pg_sub (pv 8) (pv 10) set_list)))))
      (pss_one (ps_expr (pe_bm PySem.F.plainAttrs_list PySem.F.slot_list_append PySem.F.type_list_append mt_append (pv 4) (pa_cons (pv 8) pa_nil))))))))))
      (pss_one (ps_ret (pe_cal c_law_reduced hr (by decide) (by rfl) (pa_cons (pv 4) pa_nil)))))))), ?_⟩
  dsimp only at hw f1 f2 f3 f4 hl e k
  have RR := (reducedL_ok (w := n) (lines := rows)).1
  have R9 : (reducedL n rows).length ≤ 9 := Nat.le_trans RR.leads_lt hw
  refine s_asg (ev_call (ea_cons ((en_cb (ea_cons (ev_var rfl) ea_nil) (cv_list (k := kk) (ds := rows.map (rowD kd n)))).dat.cast (b := rowsD true kd n rows) rfl) ea_nil) (spD_v (⟨true, kd, n, rows⟩ : RdA) ⟨hw, f1, hl⟩)) e eb fun σ1 H1 B1 x1 e1 => ?_
  dsimp only at e1
  have en : nullsL n rows = reducedL n (foundsL n (reducedL n rows)) := rfl
  rw [en] at k
  generalize reducedL n rows = R at *
  have L : (R.map (rowD false n)).length = R.length := List.length_map ..
  have ldc : ∀ {G : Gam} {te : TE} (i : Nat), i < R.length → ED K te G (rowD false n (La.row R i)) → ED K (tCall (spLLead K) [] E0 (tCons te tNil)) G (.int (ld n (La.row R i) : Int)) := fun i hi h => (ev_call (ea_cons h ea_nil) (spD_v (⟨false, n, La.row R i⟩ : RowA) hw)).cast (by dsimp only; rw [(RR.nz _ (row_mem hi)).isLd.lead]; rfl)
  refine s_asg ((en_lc (p := fun _ => true) (f := fun i => .int (ld n (La.row R i) : Int)) (w_sq (k := true) (item := fun i => rowD false n (La.row R i)) (ev_var rfl) fun i hi => row_in hi) (by omega) (by decide) (fun _ _ => et_yes) (fun i hi _ => ldc i (by omega) (ev_var rfl))).dat.cast (b := .list ((R.map fun r => (ld n r : Int)).map .int)) (by rw [L, picked_all, row_map (f := fun r => PyData.int (ld n r : Int)), List.map_map]; rfl)) e1 x1.le fun σ1' H1' B1' x1' e1' => ?_
  have x11 := x1.trans x1'
  refine s_asgN (en_lst ea_nil (by simp)) e1' x1'.le fun p xs σ2 H2 B2 hp x2 h2 b2 r2 e2 => ?_
  have n0 : H p = none := Evl.fresh_back x11.ex hp
  let ldD : D := .list ((R.map fun r => (ld n r : Int)).map .int)
  let fr : List Nat := frees n R
  have fl : fr.length ≤ 9 := by
    have := List.length_filter_le (isFree n R) (List.range n)
    rw [List.length_range] at this
    exact Nat.le_trans this hw
  let fnd : Nat → List D := fun j => ((fr.take j).map (nullL n R (botL n R))).map (rowD true n)
  have fnl : ∀ j, (fnd j).length ≤ 9 := fun j => by
    show (((fr.take j).map (nullL n R (botL n R))).map (rowD true n)).length ≤ 9
    rw [List.length_map, List.length_map, List.length_take]
    omega
  have frat : ∀ j, j < (fr.map fun n : Nat => PyData.int (n : Int)).length → (fr.map fun n : Nat => PyData.int (n : Int))[j]? = some (.int ((fr.getD j 0 : Nat) : Int)) := fun j hj => by
    rw [List.length_map] at hj
    rw [List.getElem?_map, List.getD_eq_getElem?_getD, List.getElem?_eq_getElem hj]
    rfl
  let Gi : Nat → Gam := fun _ => [.dat (rowsD kk kd n rows), .dat (.int (n : Int)), .dat (rowsD true false n R), .dat ldD, .val (.ref p), .no, .no, .no, .no, .no, .no]
  refine s_for (n := (fr.map fun n : Nat => PyData.int (n : Int)).length) (B0 := B) (H0 := H) (Gi := Gi) (Φ := fun _ j B' H' => Own K p (fnd j) B' H') (w_sq (k := true) (item := fun j => .int ((fr.getD j 0 : Nat) : Int)) ((en_lc (p := fun i => isFree n R i) (f := fun i => .int (i : Int)) (w_rng1 (ea_cons (ev_var rfl) ea_nil) ⟨by omega, by omega⟩) (by omega) (by decide) (fun i hi => (et_test (ev_notIn (k := true) (ev_var rfl) (ev_var rfl))).cast free_mem) (fun i hi _ => ev_var rfl)).dat.cast rfl) frat) e2 (x11.trans x2) (fun B1 H1 x1 => ⟨⟨rfl, rfl, rfl, rfl, rfl, trivial, trivial, trivial, trivial, trivial, trivial, trivial⟩, (Own.to h2 b2 r2).ext x1⟩) (fun B1 i0 σ3 B3 H3 H4 hi X3 b3 o3 x4 e3 => ?_) (fun B1 σ3 B3 H3 e3 X3 o3 => ?_)
  · rw [List.length_map] at hi
    have hfr : fr[i0]? = some (fr.getD i0 0) := by rw [List.getD_eq_getElem?_getD, List.getElem?_eq_getElem hi]; rfl
    generalize hi0 : fr.getD i0 0 = i at hfr e3
    obtain ⟨hin, hb⟩ := mem_frees.mp (List.mem_of_getElem? hfr)
    have o4 := o3.ext x4
    have X4 := X3.trans x4
    refine s_asg ev_int e3 x4.le fun σ6 H6 B6 x6 e6 => ?_
    have o6 := o4.ext x6
    have X6 := X4.trans x6
    let Gj : Nat → Gam := fun j => [.dat (rowsD kk kd n rows), .dat (.int (n : Int)), .dat (rowsD true false n R), .dat ldD, .val (.ref p), .dat (.int (i : Int)), .dat (.int (botL n (R.take j))), .no, .no, .no, .no]
    refine s_for (n := (R.map (rowD false n)).length) (B0 := B) (H0 := H) (Gi := Gj) (Φ := fun _ _ B' H' => Evl.Ex B6 B' ∧ Own K p (fnd i0) B' H') (w_sq (k := true) (item := fun i => rowD false n (La.row R i)) (ev_var rfl) fun i hi => row_in hi) e6 X6 (fun B1 H1 x1 => ⟨⟨rfl, rfl, rfl, rfl, rfl, rfl, rfl, trivial, trivial, trivial, trivial, trivial⟩, x1.bb, o6.ext x1⟩) (fun B7 j σ7 B8 H8 H9 hj X8 b8 ⟨c8, o8⟩ x9 e9 => ?_) (fun B7 σ7 B8 H8 e8 X8 ⟨c8, o8⟩ => ?_)
    · rw [L] at hj
      have m := row_mem hj
      have isl := (RR.nz _ m).isLd
      have lb := f2 _ m _ isl.lt
      have bb := f3 j (by omega)
      refine s_asg (ev_mul (ev_var rfl) (ev_ix (ev_var rfl) (ldc j hj (ev_var rfl)) rfl (vec_at isl.lt)) (mul9 bb lb)) e9 x9.le fun σ10 H10 B10 x10 e10 => ?_
      refine ⟨B10, e10.le ?_, (X8.trans x9).trans x10, b8.trans (x9.bb.trans x10.bb), c8.trans (x9.bb.trans x10.bb), (o8.ext x9).ext x10⟩
      have eb : botL n (R.take (j + 1)) = botL n (R.take j) * La.row R j (ld n (La.row R j)) := by
        unfold botL
        rw [take_row hj, List.foldl_append]
        rfl
      show Gle [_, _, _, _, _, _, .dat (.int (botL n (R.take (j + 1)))), _, _, _, _] _
      rw [eb]
      exact ⟨rfl, rfl, rfl, rfl, rfl, rfl, rfl, trivial, trivial, trivial, trivial, trivial⟩
    · dsimp only at e8 ⊢
      have e8 : Wk.Env K B8 σ7 (Gj R.length) := by rw [← L]; exact e8
      have e8 : Wk.Env K B8 σ7 [.dat (rowsD kk kd n rows), .dat (.int (n : Int)), .dat (rowsD true false n R), .dat ldD, .val (.ref p), .dat (.int (i : Int)), .dat (.int (botL n R)), .no, .no, .no, .no] := by
        have := e8
        show Wk.Env K B8 σ7 _
        rw [show botL n R = botL n (R.take R.length) from by rw [List.take_length]]
        exact this
      have bb := f3 R.length (Nat.le_refl _)
      rw [List.take_length] at bb
      obtain ⟨bt0, _, btd⟩ := botL_fold (w := n) (T := R) (a := 1) (fun r hr => (RR.nz r hr).isLd.ne) (by decide)
      have bt0 : botL n R ≠ 0 := bt0
      have btd : ∀ r ∈ R, r (ld n r) ∣ botL n R := btd
      generalize hbt : botL n R = bt at *
      refine s_asgN ((en_rep (ds := [.int 0]) (en_lst (ea_cons ev_int ea_nil) (by simp)).liv (ev_var rfl) ⟨by omega, by omega⟩ (by simp)).cast (es := vec n fun _ => 0) (by rw [← rep_zero]; rfl)) e8 X8.le fun ps ys σ9 H9 B9 hps x9 h9 b9 r9 e9 => ?_
      have o9 := o8.ext x9
      have ne : ps ≠ p := o8.ne hps
      have nps : H ps = none := Evl.fresh_back X8.ex hps
      have os : Own K ps (vec n fun _ => 0) B9 H9 := Own.to h9 b9 r9
      have X9 := X8.trans x9
      refine Own.setL (ev_val rfl) (ev_var rfl) rfl (ev_var rfl) e9 X9 nps os (by rw [vec_len]; exact hin) fun H10 B10 X10 kp10 os10 e10 => ?_
      rw [vec_set] at os10
      have o10 := kp10.own p _ (fun z => ne z.symm) o9
      let sm : Nat → Vec := fun j => (R.take j).foldl (fun s r => La.upd s (ld n r) (0 - r i * bt.fdiv (r (ld n r)))) (La.upd (fun _ => 0) i bt)
      let Gk : Nat → Gam := fun j => [.dat (rowsD kk kd n rows), .dat (.int (n : Int)), .dat (rowsD true false n R), .dat ldD, .val (.ref p), .dat (.int (i : Int)), .dat (.int bt), .no, .val (.ref ps), .no, .no]
      refine s_for (n := (R.map (rowD false n)).length) (B0 := B) (H0 := H) (Gi := Gk) (Φ := fun _ j B' H' => Evl.Ex B10 B' ∧ Own K p (fnd i0) B' H' ∧ Own K ps (vec n (sm j)) B' H') (w_sq (k := true) (item := fun i => rowD false n (La.row R i)) (ev_var rfl) fun i hi => row_in hi) e10 X10 (fun B1 H1 x1 => ⟨⟨rfl, rfl, rfl, rfl, rfl, rfl, rfl, trivial, rfl, trivial, trivial, trivial⟩, x1.bb, o10.ext x1, os10.ext x1⟩) (fun B11 j σ10 B12 H11 H12 hj X11 b11 ⟨c11, o11⟩ x12 e12 => ?_) (fun B11 σ10 B12 H11 e11 X11 ⟨c11, o11⟩ => ?_)
      · rw [L] at hj
        have m := row_mem hj
        have isl := (RR.nz _ m).isLd
        have lb := f2 _ m _ isl.lt
        refine s_asg (ldc j hj (ev_var rfl)) e12 x12.le fun σ13 H13 B13 x13 e13 => ?_
        have x1213 := x12.trans x13
        have qb : (bt.fdiv (La.row R j (ld n (La.row R j)))).natAbs < 2 ^ 9000 := Nat.lt_of_le_of_lt (fdiv_le (btd _ m) isl.ne) bb
        refine Own.setL (ev_val rfl) (ev_var rfl) rfl (ev_sub ev_int (ev_mul (ev_ix (ev_var rfl) (ev_var rfl) rfl (vec_at hin)) (ev_fdiv (ev_var rfl) (ev_ix (ev_var rfl) (ev_var rfl) rfl (vec_at isl.lt)) ⟨isl.ne, log_lt lb (by omega)⟩) (mul9 (f2 _ m _ hin) qb))) e13 (X11.trans x1213) nps (o11.2.ext x1213) (by rw [vec_len]; exact isl.lt) fun H14 B14 X14 kp14 o14 e14 => ?_
        refine ⟨B14, e14.le ?_, X14, (b11.trans x1213.bb).trans kp14.bb, (c11.trans x1213.bb).trans kp14.bb, kp14.own p _ (fun z => ne z.symm) (o11.1.ext x1213), ?_⟩
        · exact ⟨rfl, rfl, rfl, rfl, rfl, rfl, rfl, trivial, rfl, trivial, trivial, trivial⟩
        · rw [vec_set] at o14
          have es : sm (j + 1) = La.upd (sm j) (ld n (La.row R j)) (0 - La.row R j i * bt.fdiv (La.row R j (ld n (La.row R j)))) := by
            show (R.take (j + 1)).foldl _ _ = _
            rw [take_row hj, List.foldl_append]
            rfl
          rw [es]
          exact o14
      · dsimp only at e11 ⊢
        rw [L] at o11
        have es : sm R.length = nullL n R bt i := by
          show (R.take R.length).foldl _ _ = _
          rw [List.take_length]
          rfl
        rw [es] at o11
        obtain ⟨B13, e13, X13, b13, kp⟩ := o11.2.show_ e11 X11 nps (i := 8) rfl
        have o13 := kp p _ (fun z => ne z.symm) o11.1
        refine o13.app rfl (ev_var rfl) e13 X13 n0 (Nat.lt_of_le_of_lt (fnl i0) (by omega)) fun H14 B14 X14 kp2 o14 e14 => ?_
        refine ⟨B14, e14.le ?_, X14, ?_, ?_⟩
        · exact ⟨rfl, rfl, rfl, rfl, rfl, trivial, trivial, trivial, trivial, trivial, trivial, trivial⟩
        · exact (((((((b3.trans x4.bb).trans x6.bb).trans c8).trans x9.bb).trans kp10.bb).trans c11).trans b13).trans kp2.bb
        · have ef : fnd (i0 + 1) = fnd i0 ++ [rowD true n (nullL n R bt i)] := by
            show ((fr.take (i0 + 1)).map (nullL n R (botL n R))).map (rowD true n) = ((fr.take i0).map (nullL n R (botL n R))).map (rowD true n) ++ _
            rw [List.take_succ, hfr, List.map_append, List.map_append, hbt]
            rfl
          rw [ef]
          exact o14
  · dsimp only at e3 ⊢
    rw [List.length_map] at o3
    have ef : fnd fr.length = (foundsL n R).map (rowD true n) := by
      show ((fr.take fr.length).map (nullL n R (botL n R))).map (rowD true n) = _
      rw [List.take_length]
      rfl
    rw [ef] at o3
    obtain ⟨B4, e4, X4, b4, kp⟩ := o3.show_ e3 X3 n0 (i := 4) rfl
    refine s_ret (ev_call (ea_cons (ev_var rfl) ea_nil) (spD_v (⟨true, true, n, foundsL n R⟩ : RdA) ⟨hw, f4, ?_⟩)) e4 X4.le fun u H5 B5 x5 r5 => k u H5 B5 (X4.trans x5) r5
    show (foundsL n R).length ≤ 100
    unfold foundsL
    rw [List.length_map]
    exact Nat.le_trans fl (by omega)
end
end At
-- V23
namespace At
open PySem PySem.Spec PyProof.Rows L2 Wk La
abbrev st_law_folded : Stmt := topS 59
abbrev N_law_folded : List Str := ["_law_line", "_law_size", "_law_k"]
theorem sc_law_folded : FnScope N_law_folded ["_law_line", "_law_size"] (defScope st_law_folded) := ⟨rfl, rfl, rfl, by decide +kernel, rfl, by decide +kernel, by decide +kernel⟩
abbrev st_law_unit : Stmt := topS 51
abbrev N_law_unit : List Str := ["_law_size", "_law_k", "_law_j"]
theorem sc_law_unit : FnScope N_law_unit ["_law_size"] (defScope st_law_unit) := ⟨rfl, rfl, rfl, by decide +kernel, rfl, by decide +kernel, by decide +kernel⟩
abbrev st_law_times : Stmt := topS 50
abbrev N_law_times : List Str := ["_law_one_here", "_law_two", "_law_size", "_law_found", "_law_line", "_law_j", "_law_k"]
theorem sc_law_times : FnScope N_law_times ["_law_one_here", "_law_two"] (defScope st_law_times) := ⟨rfl, rfl, rfl, by decide +kernel, rfl, by decide +kernel, by decide +kernel⟩
abbrev st_law_rank : Stmt := topS 67
abbrev N_law_rank : List Str := ["_law_table_here"]
theorem sc_law_rank : FnScope N_law_rank ["_law_table_here"] (defScope st_law_rank) := ⟨rfl, rfl, rfl, by decide +kernel, rfl, by decide +kernel, by decide +kernel⟩
structure TmA where
  n : Nat
  A : Tb
  B : Tb
def BT (n : Nat) (b : Nat) (T : Tb) : Prop := ∀ i j, i < n → j < n → (T i j).natAbs < 2 ^ b
section
variable {P : Program} {w : World} {K : PySem.W.Frag} {mg : Str → Option Value} {base : Heap} (bi : Bi mg)
include bi in
theorem ok_law_folded {f : Addr} {fd : FuncData} (F : L2.Fun K "_law_folded" "_law_folded" st_law_folded f fd) : FnOk P w K mg base CX0 1 f fd ["_law_line", "_law_size"] (spFolded K) := by
  refine okD F sc_law_folded (fun _ => rfl) (by decide) fun ⟨kd, n, v⟩ cdv A outer s H σ Q E B hr hn eb e k => ⟨_, (pss_one (ps_ret (pe_callTy (r := rTupOf K) call_tuple_of (by rfl) bi.tuple (by decide +kernel) (pa_cons (pe_lc (own := [("_law_k", 2)]) (wi := _) (g := gName 2) (by rfl) sc_law_folded.nd (pi_range1 (by rfl) bi.range (pa_cons (pv 1) pa_nil)) (blkOk_by (N := N_law_folded) (sc := (defScope st_law_folded)) (by decide +kernel)) (fun _ _ _ _ _ => (pg_name (i := 2) sc_law_folded.nd rfl (by first | exact Or.inl rfl | exact Or.inr rfl))) (fun _ _ _ _ _ => pts_nil) (fun _ _ _ _ _ => (pe_callTy (r := rTupOf K) call_tuple_of (by rfl) bi.tuple (by decide +kernel) (pa_cons (pe_slice (r := rSlB K) sl_any (pv 0) (po_some (pe_op op_mulW (pv 1) (pv 2))) (po_some (pe_op op_add (pe_op op_mulW (pv 1) (pv 2)) (pv 1)))) pa_nil)))) pa_nil)))), ?_⟩
  dsimp only at e hn k
  have sm : ∀ i : Nat, i < n → CMulW (n : Int) (i : Int) := fun i hi => mul9 (Nat.lt_of_lt_of_le (show ((n : Int)).natAbs < 2 ^ 2 by omega) (Nat.pow_le_pow_right (by decide) (by omega))) (Nat.lt_of_lt_of_le (show ((i : Int)).natAbs < 2 ^ 2 by omega) (Nat.pow_le_pow_right (by decide) (by omega)))
  refine s_ret (ev_cb (ea_cons (en_lc (p := fun _ => true) (f := fun i => rowD false n (tabOf n v i)) (w_rng1 (ea_cons (ev_var rfl) ea_nil) ⟨by omega, by omega⟩) (by omega) (by decide) (fun _ _ => et_yes) (fun i hi _ => ?_)).dat ea_nil) (cv_tuple (k := true))) e eb fun u H5 B5 x5 r5 => k u H5 B5 x5 ?_
  · have hi : i < n := by omega
    refine (ev_cb (ea_cons (ev_slice (k := kd) (ev_var rfl) (eo_some (ev_mul (ev_var rfl) (ev_var rfl) (sm i hi))) (eo_some (ev_add (ev_mul (ev_var rfl) (ev_var rfl) (sm i hi)) (ev_var rfl)))) ea_nil) cv_tuple).cast ?_
    have e1 : (n : Int) * (i : Int) = ((n * i : Nat) : Int) := by rw [Int.natCast_mul]
    rw [e1, ← Int.natCast_add, vec_cut (by omega) (by have := ix_lt hi (show n - 1 < n by omega); omega)]
    show PyData.tuple _ = PyData.tuple _
    congr 1
    rw [show n * i + n - n * i = n by omega]
    rfl
  · rw [picked_all] at r5
    exact r5
abbrev spLUnit (K : PySem.W.Frag) : Sp := spD K (fun n : Nat => [.int (n : Int)]) (fun n => n ≤ 3) fun n => tabD n unitT
include bi in
theorem ok_law_unit {f : Addr} {fd : FuncData} (F : L2.Fun K "_law_unit" "_law_unit" st_law_unit f fd) : FnOk P w K mg base CX0 1 f fd ["_law_size"] (spLUnit K) := by
  refine okD F sc_law_unit (fun _ => rfl) (by decide) fun n cdv A outer s H σ Q E B hr hn eb e k => ⟨_, (pss_one (ps_ret (pe_callTy (r := rTupOf K) call_tuple_of (by rfl) bi.tuple (by decide +kernel) (pa_cons (pe_lc (own := [("_law_k", 1)]) (wi := _) (g := gName 1) (by rfl) sc_law_unit.nd (pi_range1 (by rfl) bi.range (pa_cons (pv 0) pa_nil)) (blkOk_by (N := N_law_unit) (sc := (defScope st_law_unit)) (by decide +kernel)) (fun _ _ _ _ _ => (pg_name (i := 1) sc_law_unit.nd rfl (by first | exact Or.inl rfl | exact Or.inr rfl))) (fun _ _ _ _ _ => pts_nil) (fun _ _ _ _ _ => (pe_callTy (r := rTupOf K) call_tuple_of (by rfl) bi.tuple (by decide +kernel) (pa_cons (pe_lc (own := [("_law_j", 2)]) (wi := _) (g := gName 2) (by rfl) sc_law_unit.nd (pi_range1 (by rfl) bi.range (pa_cons (pv 0) pa_nil)) (blkOk_by (N := N_law_unit) (sc := (relS _ (defScope st_law_unit))) (by decide +kernel)) (fun _ _ _ _ _ => (pg_name (i := 2) sc_law_unit.nd rfl (by first | exact Or.inl rfl | exact Or.inr rfl))) (fun _ _ _ _ _ => pts_nil) (fun _ _ _ _ _ => (pe_callTy call_int1 (by rfl) bi.int (by decide +kernel) (pa_cons (pe_cmpR (r := rEqD K) (op_eqD hr.units) (pv 2) (pv 1) (nomark _)) pa_nil)))) pa_nil)))) pa_nil)))), ?_⟩
  refine s_ret (ev_cb (ea_cons (en_lc (p := fun _ => true) (f := fun i => rowD false n (unitT i)) (w_rng1 (ea_cons (ev_var rfl) ea_nil) ⟨by omega, by omega⟩) (by omega) (by decide) (fun _ _ => et_yes) (fun i hi _ => ?_)).dat ea_nil) (cv_tuple (k := true))) e eb fun u H5 B5 x5 r5 => k u H5 B5 x5 ?_
  · refine (ev_cb (ea_cons (en_lc (p := fun _ => true) (f := fun j => .int (unitT i j)) (w_rng1 (ea_cons (ev_var rfl) ea_nil) ⟨by omega, by omega⟩) (by omega) (by decide) (fun _ _ => et_yes) (fun j hj _ => ?_)).dat ea_nil) (cv_tuple (k := true))).cast ?_
    · refine (ev_cb (ea_cons (ev_eqI (ev_var rfl) (ev_var rfl)) ea_nil) cv_intB).cast ?_
      unfold unitT
      by_cases q : i = j
      · subst q; simp
      · have : ((j : Nat) : Int) ≠ (i : Int) := by omega
        simp [q, this]
    · rw [picked_all]
      rfl
  · rw [picked_all] at r5
    exact r5
abbrev spLTimes (K : PySem.W.Frag) : Sp := spD K (fun a : TmA => [tabD a.n a.A, tabD a.n a.B]) (fun a => 1 ≤ a.n ∧ a.n ≤ 3 ∧ BT a.n 9000 a.A ∧ BT a.n 9000 a.B) fun a => tabD a.n (mulT a.n a.A a.B)
include bi in
theorem ok_law_times {f : Addr} {fd : FuncData} (F : L2.Fun K "_law_times" "_law_times" st_law_times f fd) : FnOk P w K mg base CX0 1 f fd ["_law_one_here", "_law_two"] (spLTimes K) := by
  refine okD F sc_law_times (fun _ => rfl) (by decide) fun ⟨n, a, b⟩ cdv A outer s H σ Q E B hr ⟨h1, h3, ha, hb⟩ eb e k => ⟨_, (pss_cons (ps_set (i := 2) sc_law_times.nd rfl (by first | exact Or.inl rfl | exact Or.inr rfl) (pe_callB (r := rLenSq K) call_len_seq (by rfl) bi.len (by decide +kernel) (pa_cons (pv 1) pa_nil)))
      (pss_cons (ps_set (i := 3) sc_law_times.nd rfl (by first | exact Or.inl rfl | exact Or.inr rfl) (pe_lst pa_nil))
      (pss_cons (ps_for PassesOwn.never (by rfl) (pi_sq (pv 0)) (pg_name (i := 4) sc_law_times.nd rfl (by first | exact Or.inl rfl | exact Or.inr rfl)) (pss_one (ps_expr (pe_bm PySem.F.plainAttrs_list PySem.F.slot_list_append PySem.F.type_list_append mt_append (pv 3) (pa_cons (pe_callTy (r := rTupOf K) call_tuple_of (by rfl) bi.tuple (by decide +kernel) (pa_cons (pe_lc (own := [("_law_j", 5)]) (wi := _) (g := gName 5) (by rfl) sc_law_times.nd (pi_range1 (by rfl) bi.range (pa_cons (pe_callB (r := rLenSq K) call_len_seq (by rfl) bi.len (by decide +kernel) (pa_cons (pe_ix (r := rIx K) ix_seq (pv 1) pe_int (fun _ _ => rfl)) pa_nil)) pa_nil)) (blkOk_by (N := N_law_times) (sc := (defScope st_law_times)) (by decide +kernel)) (fun _ _ _ _ _ => (pg_name (i := 5) sc_law_times.nd rfl (by first | exact Or.inl rfl | exact Or.inr rfl))) (fun _ _ _ _ _ => pts_nil) (fun _ _ _ _ _ => (pe_callB (r := rSum K) (cr_sum (by rfl)) (by rfl) bi.sum (by decide +kernel) (pa_cons (pe_lc (own := [("_law_k", 6)]) (wi := _) (g := gName 6) (by rfl) sc_law_times.nd (pi_range1 (by rfl) bi.range (pa_cons (pv 2) pa_nil)) (blkOk_by (N := N_law_times) (sc := (relS _ (defScope st_law_times))) (by decide +kernel)) (fun _ _ _ _ _ => (pg_name (i := 6) sc_law_times.nd rfl (by first | exact Or.inl rfl | exact Or.inr rfl))) (fun _ _ _ _ _ => pts_nil) (fun _ _ _ _ _ => (pe_op op_mulW (pe_ix (r := rIx K) ix_seq (pv 4) (pv 6) (fun _ _ => rfl)) (pe_ix (r := rIx K) ix_seq (pe_ix (r := rIx K) ix_seq (pv 1) (pv 6) (fun _ _ => rfl)) (pv 5) (fun _ _ => rfl))))) pa_nil)))) pa_nil)) pa_nil)))))
      (pss_one (ps_ret (pe_callTy (r := rTupOf K) call_tuple_of (by rfl) bi.tuple (by decide +kernel) (pa_cons (pv 3) pa_nil))))))), ?_⟩
  dsimp only at e h1 h3 ha hb k
  have lenT : ∀ {G : Gam} {te : TE} {T : Tb}, ED K te G (tabD n T) → ED K (tCB (rLenSq K) (tCons te tNil)) G (.int (n : Int)) := fun h => (ev_cb (ea_cons h ea_nil) (cv_len (k := false))).cast (by rw [List.length_map, List.length_range])
  refine s_asg (lenT (ev_var rfl)) e eb fun σ1 H1 B1 x1 e1 => ?_
  refine s_asgN (en_lst ea_nil (by simp)) e1 x1.le fun p xs σ2 H2 B2 hp x2 h2 b2 r2 e2 => ?_
  have n0 : H p = none := Evl.fresh_back x1.ex hp
  let pt : Nat → List D := fun m => (List.range m).map fun i => rowD false n (mulT n a b i)
  let G0 : Gam := [.dat (tabD n a), .dat (tabD n b), .dat (.int (n : Int)), .val (.ref p), .no, .no, .no]
  have ll : ((List.range n).map fun i => rowD false n (a i)).length = n := by rw [List.length_map, List.length_range]
  refine s_for (n := ((List.range n).map fun i => rowD false n (a i)).length) (B0 := B) (H0 := H) (Gi := fun _ => G0) (Φ := fun _ i B' H' => Own K p (pt i) B' H') (w_sq (k := false) (item := fun i => rowD false n (a i)) (ev_var rfl) fun i hi => range_at (by omega)) e2 (x1.trans x2) (fun B1 H1 x1 => ⟨⟨rfl, rfl, rfl, rfl, trivial, trivial, trivial, trivial⟩, (Own.to h2 b2 r2).ext x1⟩) (fun B3 i σ3 B' H' H3 hi X' b' o3 x3 e3 => ?_) (fun B3 σ3 B' H' e3 X' o3 => ?_)
  · rw [ll] at hi
    have X3 := X'.trans x3
    refine (o3.ext x3).app (d := rowD false n (mulT n a b i)) rfl (ev_cb (ea_cons (en_lc (p := fun _ => true) (f := fun j => .int (mulT n a b i j)) (w_rng1 (ea_cons ((ev_cb (ea_cons (ev_ix (k := false) (ev_var rfl) ev_int (show (0 : Int) = ((0 : Nat) : Int) from rfl) (range_at (show 0 < n by omega))) ea_nil) (cv_len (k := false) (ds := vec n (b 0)))).cast (b := .int (n : Int)) (by rw [vec_len])) ea_nil) ⟨by omega, by omega⟩) (by omega) (by decide) (fun _ _ => et_yes) (fun j hj _ => ?_)).dat ea_nil) (cv_tuple (k := true)) |>.cast ?_) e3 X3 n0 (by show ((List.range i).map _).length < _; rw [List.length_map, List.length_range]; omega) fun H5 B5 X5 kp o5 e5 => ?_
    · refine (ev_cb (ea_cons ((en_lc (p := fun _ => true) (f := fun l => .int (a i l * b l j)) (w_rng1 (ea_cons (ev_var rfl) ea_nil) ⟨by omega, by omega⟩) (by omega) (by decide) (fun _ _ => et_yes) (fun l hl _ => ?_)).dat.cast (b := .list (((List.range n).map fun l => a i l * b l j).map .int)) ?_) ea_nil) cv_sum).cast ?_
      · exact ev_mul (ev_ix (k := false) (ev_var rfl) (ev_var rfl) rfl (vec_at (by omega))) (ev_cell (ev_var rfl) (ev_var rfl) (ev_var rfl) rfl rfl (by omega) (by omega)) (mul9 (ha i l hi (by omega)) (hb l j (by omega) (by omega)))
      · rw [picked_all, List.map_map]
        rfl
      · rw [sum_range]
        rfl
    · rw [picked_all]
      rfl
    · refine ⟨B5, e5.le (by exact ⟨rfl, rfl, rfl, rfl, trivial, trivial, trivial, trivial⟩), X5, (b'.trans x3.bb).trans kp.bb, ?_⟩
      have ep : pt (i + 1) = pt i ++ [rowD false n (mulT n a b i)] := by
        show (List.range (i + 1)).map _ = _
        rw [List.range_succ, List.map_append]
        rfl
      rw [ep]
      exact o5
  · dsimp only at e3 ⊢
    rw [ll] at o3
    obtain ⟨B4, e4, X4, b4, kp⟩ := o3.show_ e3 X' n0 (i := 3) rfl
    exact s_ret (ev_cb (ea_cons (ev_var rfl) ea_nil) (cv_tuple (k := true))) e4 X4.le fun u H5 B5 x5 r5 => k u H5 B5 (X4.trans x5) r5
end
end At
-- V24
namespace At
open PySem PySem.Spec PyProof.Rows L2 Wk La
abbrev st_law_conditions : Stmt := topS 65
abbrev N_law_conditions : List Str := ["_law_size", "_law_one_here", "_law_two", "_law_found", "_law_r", "_law_c", "_law_line", "_law_k", "_law_at", "_law_other"]
theorem sc_law_conditions : FnScope N_law_conditions ["_law_size", "_law_one_here", "_law_two"] (defScope st_law_conditions) := ⟨rfl, rfl, rfl, by decide +kernel, rfl, by decide +kernel, by decide +kernel⟩
abbrev st_law_changes : Stmt := topS 66
abbrev N_law_changes : List Str := ["_law_tables_here", "_law_others", "_law_k", "_law_size", "_law_lines_here", "_law_line"]
theorem sc_law_changes : FnScope N_law_changes ["_law_tables_here", "_law_others"] (defScope st_law_changes) := ⟨rfl, rfl, rfl, by decide +kernel, rfl, by decide +kernel, by decide +kernel⟩
section
variable {P : Program} {w : World} {K : PySem.W.Frag} {mg : Str → Option Value} {base : Heap} (bi : Bi mg)
include bi in
theorem ok_law_conditions {f : Addr} {fd : FuncData} (F : L2.Fun K "_law_conditions" "_law_conditions" st_law_conditions f fd) : FnOk P w K mg base CX0 1 f fd ["_law_size", "_law_one_here", "_law_two"] (spSumsFor K) := by
  refine okN F sc_law_conditions (fun _ => rfl) (by decide) fun ⟨n, one, other⟩ cdv A outer s H σ Q E B hr hn eb e k => ⟨_, (pss_cons (ps_set (i := 3) sc_law_conditions.nd rfl (by first | exact Or.inl rfl | exact Or.inr rfl) (pe_lst pa_nil))
      (pss_cons (ps_for PassesOwn.never (by rfl) (pi_range1 (by rfl) bi.range (pa_cons (pv 0) pa_nil)) (pg_name (i := 4) sc_law_conditions.nd rfl (by first | exact Or.inl rfl | exact Or.inr rfl)) (pss_one (ps_for PassesOwn.never (by rfl) (pi_range1 (by rfl) bi.range (pa_cons (pv 0) pa_nil)) (pg_name (i := 5) sc_law_conditions.nd rfl (by first | exact Or.inl rfl | exact Or.inr rfl)) (pss_cons (ps_set (i := 6) sc_law_conditions.nd rfl (by first | exact Or.inl rfl | exact Or.inr rfl) (pe_op op_rep (pe_lst (pa_cons pe_int pa_nil)) (pe_op op_mulW (pv 0) (pv 0))))
      (pss_cons (ps_for PassesOwn.never (by rfl) (pi_range1 (by rfl) bi.range (pa_cons (pv 0) pa_nil)) (pg_name (i := 7) sc_law_conditions.nd rfl (by first | exact Or.inl rfl | exact Or.inr rfl)) (pss_cons (ps_par (i := 8) (j := 9) (by rfl) sc_law_conditions.nd rfl rfl (by decide) rfl rfl (pa_cons (pe_op op_add (pe_op op_mulW (pv 0) (pv 4)) (pv 7)) (pa_cons (pe_op op_add (pe_op op_mulW (pv 0) (pv 7)) (pv 5)) pa_nil)) (by rfl))
      (pss_cons (ps_asg (pe_op op_add (pe_ix (r := rIx K) ix_seq (pv 6) (pv 8) (fun _ _ => rfl)) (pe_ix (r := rIx K) ix_seq (pe_ix (r := rIx K) ix_seq (pv 1) (pv 7) (fun _ _ => rfl)) (pv 5) (fun _ _ => rfl))) (pg_sub (pv 6) (pv 8) set_list))
      (pss_one (ps_asg (pe_op op_sub (pe_ix (r := rIx K) ix_seq (pv 6) (pv 9) (fun _ _ => rfl)) (pe_ix (r := rIx K) ix_seq (pe_ix (r := rIx K) ix_seq (pv 2) (pv 4) (fun _ _ => rfl)) (pv 7) (fun _ _ => rfl))) (pg_sub (pv 6) (pv 9) set_list))))))
      (pss_one (ps_expr (pe_bm PySem.F.plainAttrs_list PySem.F.slot_list_append PySem.F.type_list_append mt_append (pv 3) (pa_cons (pv 6) pa_nil)))))))))
      (pss_one (ps_ret (pv 3))))), ?_⟩
  dsimp only at e hn k
  have sm : ∀ i : Nat, i ≤ n → CMulW (n : Int) (i : Int) := fun i hi => mul9 (Nat.lt_of_lt_of_le (show ((n : Int)).natAbs < 2 ^ 2 by omega) (Nat.pow_le_pow_right (by decide) (by omega))) (Nat.lt_of_lt_of_le (show ((i : Int)).natAbs < 2 ^ 2 by omega) (Nat.pow_le_pow_right (by decide) (by omega)))
  have n9 : n * n ≤ 9 := nn9' hn
  refine s_asgN (en_lst ea_nil (by simp)) e eb fun p xs σ1 H1 B1 hp x1 h1 b1 r1 e1 => ?_
  let G0 : Ent → Ent → Ent → Gam := fun a b c => [.dat (.int (n : Int)), .dat (tabD n one), .dat (tabD n other), .val (.ref p), a, b, c, .no, .no, .no]
  let rw1 : Nat → List Vec := fun a => (List.range a).flatMap fun a => (List.range n).map fun k => sumsRow n one other a k
  let rw2 : Nat → Nat → List Vec := fun a k => rw1 a ++ (List.range k).map fun k => sumsRow n one other a k
  let dd : List Vec → List D := fun R => R.map (rowD true (n * n))
  refine s_for (n := (n : Int).toNat) (B0 := B) (H0 := H) (Gi := fun _ => G0 .no .no .no) (Φ := fun _ a B' H' => Own K p (dd (rw1 a)) B' H') (w_rng1 (ea_cons (ev_var rfl) ea_nil) ⟨by omega, by omega⟩) e1 x1 (fun B2 H2 x2 => ⟨⟨rfl, rfl, rfl, rfl, trivial, trivial, trivial, trivial, trivial, trivial, trivial⟩, (Own.to h1 b1 r1).ext x2⟩) (fun B2 a σ3 B3 H3 H4 ha X3 b3 o3 x4 e3 => ?_) (fun B2 σ3 B3 H3 e3 X3 o3 => ?_)
  · have ha : a < n := by omega
    refine s_for (n := (n : Int).toNat) (B0 := B) (H0 := H) (Gi := fun _ => G0 (.dat (.int (a : Int))) .no .no) (Φ := fun _ k B' H' => Evl.Ex B2 B' ∧ Own K p (dd (rw2 a k)) B' H') (w_rng1 (ea_cons (ev_var rfl) ea_nil) ⟨by omega, by omega⟩) e3 (X3.trans x4) (fun B5 H5 x5 => ⟨⟨rfl, rfl, rfl, rfl, rfl, trivial, trivial, trivial, trivial, trivial, trivial⟩, b3.trans (x4.bb.trans x5.bb), ?_⟩) (fun B5 k σ6 B6 H6 H7 hk X6 b6 ⟨c6, o6⟩ x7 e6 => ?_) (fun B5 σ6 B6 H6 e6 X6 ⟨c6, o6⟩ => ?_)
    · have er : rw2 a 0 = rw1 a := by show rw1 a ++ [] = rw1 a; rw [List.append_nil]
      rw [er]
      exact (o3.ext x4).ext x5
    · have hk : k < n := by omega
      refine s_asgN ((en_rep (ds := [.int 0]) (en_lst (ea_cons ev_int ea_nil) (by simp)).liv (ev_mul (ev_var rfl) (ev_var rfl) (sm n (Nat.le_refl _))) (by rw [← Int.natCast_mul]; omega) (by simp)).cast (es := vec (n * n) fun _ => 0) (by rw [← rep_zero, ← Int.natCast_mul]; rfl)) e6 x7.le fun ps ys σ8 H8 B8 hps x8 h8 b8 r8 e8 => ?_
      have o7 := o6.ext x7
      have ne : ps ≠ p := o7.ne hps
      have X7 := X6.trans x7
      have nps : H ps = none := Evl.fresh_back X7.ex hps
      have np : H p = none := hp
      have os : Own K ps (vec (n * n) fun _ => 0) B8 H8 := Own.to h8 b8 r8
      let smj : Nat → Vec := fun j => (List.range j).foldl (sumsStep n one other a k) fun _ => 0
      refine s_for (n := (n : Int).toNat) (B0 := B) (H0 := H) (Gi := fun _ => G0 (.dat (.int (a : Int))) (.dat (.int (k : Int))) (.val (.ref ps))) (Φ := fun _ j B' H' => Evl.Ex B8 B' ∧ Own K p (dd (rw2 a k)) B' H' ∧ Own K ps (vec (n * n) (smj j)) B' H') (w_rng1 (ea_cons (ev_var rfl) ea_nil) ⟨by omega, by omega⟩) e8 (X7.trans x8) (fun B9 H9 x9 => ⟨⟨rfl, rfl, rfl, rfl, rfl, rfl, rfl, trivial, trivial, trivial, trivial⟩, x9.bb, (o7.ext x8).ext x9, os.ext x9⟩) (fun B9 j σ10 B10 H10 H11 hj X10 b10 ⟨c10, o10, q10⟩ x11 e10 => ?_) (fun B9 σ10 B10 H10 e10 X10 ⟨c10, o10, q10⟩ => ?_)
      · have hj : j < n := by omega
        have i1 : n * a + j < n * n := ix_lt ha hj
        have i2 : n * j + k < n * n := ix_lt hj hk
        refine s_parE ((ev_add (ev_mul (ev_var rfl) (ev_var rfl) (sm a (by omega))) (ev_var rfl)).cast (b := .int ((n * a + j : Nat) : Int)) (by rw [← Int.natCast_mul, ← Int.natCast_add])) ((ev_add (ev_mul (ev_var rfl) (ev_var rfl) (sm j (by omega))) (ev_var rfl)).cast (b := .int ((n * j + k : Nat) : Int)) (by rw [← Int.natCast_mul, ← Int.natCast_add])) e10 x11.le fun σ11 H11' B11 x11' e11 => ?_
        have x12 := x11.trans x11'
        refine (q10.ext x12).setP (i := 6) (m := n * a + j) rfl (ev_var rfl) rfl (ev_add (ev_ix (k := true) (ev_var rfl) (ev_var rfl) rfl (vec_at i1)) (ev_cell (ev_var rfl) (ev_var rfl) (ev_var rfl) rfl rfl hj hk)) e11 (X10.trans x12) nps (by rw [vec_len]; exact i1) fun H12 B12 X12 kp12 q12 e12 => ?_
        rw [vec_set] at q12
        refine q12.setP (i := 6) (m := n * j + k) rfl (ev_var rfl) rfl (ev_sub (ev_ix (k := true) (ev_var rfl) (ev_var rfl) rfl (vec_at i2)) (ev_cell (ev_var rfl) (ev_var rfl) (ev_var rfl) rfl rfl ha hj)) e12 X12 nps (by rw [vec_len]; exact i2) fun H13 B13 X13 kp13 q13 e13 => ?_
        rw [vec_set] at q13
        refine ⟨B13, e13.le ?_, X13, (b10.trans x12.bb).trans (kp12.bb.trans kp13.bb), (c10.trans x12.bb).trans (kp12.bb.trans kp13.bb), kp13.own p _ (fun z => ne z.symm) (kp12.own p _ (fun z => ne z.symm) (o10.ext x12)), ?_⟩
        · exact ⟨rfl, rfl, rfl, rfl, rfl, rfl, rfl, trivial, trivial, trivial, trivial⟩
        · have es : smj (j + 1) = sumsStep n one other a k (smj j) j := by
            show (List.range (j + 1)).foldl _ _ = _
            rw [List.range_succ, List.foldl_append]
            rfl
          rw [es]
          exact q13
      · dsimp only at e10 ⊢
        obtain ⟨B11, e11, X11, b11, kp⟩ := q10.show_ e10 X10 nps (i := 6) rfl
        have o11 := kp p _ (fun z => ne z.symm) o10
        have ez : vec (n * n) (smj (n : Int).toNat) = vec (n * n) (sumsRow n one other a k) := rfl
        refine o11.app rfl (ev_var rfl) e11 X11 np (by
          show ((rw1 a ++ (List.range k).map fun k => sumsRow n one other a k).map (rowD true (n * n))).length < 100000
          rw [List.length_map, List.length_append, List.length_map, List.length_range]
          have : (rw1 a).length = a * n := flat_len
          have : a * n ≤ n * n := Nat.mul_le_mul_right _ (by omega)
          omega) fun H13 B13 X13 kp2 o13 e13 => ?_
        refine ⟨B13, e13.le ?_, X13, (((b6.trans x7.bb).trans x8.bb).trans (c10.trans b11)).trans kp2.bb, (((c6.trans x7.bb).trans x8.bb).trans (c10.trans b11)).trans kp2.bb, ?_⟩
        · exact ⟨rfl, rfl, rfl, rfl, rfl, trivial, trivial, trivial, trivial, trivial, trivial⟩
        · have ef : dd (rw2 a (k + 1)) = dd (rw2 a k) ++ [rowD true (n * n) (sumsRow n one other a k)] := by
            show (rw1 a ++ (List.range (k + 1)).map fun k => sumsRow n one other a k).map (rowD true (n * n)) = (rw1 a ++ (List.range k).map fun k => sumsRow n one other a k).map (rowD true (n * n)) ++ _
            rw [List.range_succ, List.map_append, List.map_append, List.map_append, List.map_append, List.append_assoc]
            rfl
          rw [ef]
          exact o13
    · dsimp only at e6 ⊢
      refine ⟨B6, e6.le ?_, X6, c6, ?_⟩
      · exact ⟨rfl, rfl, rfl, rfl, trivial, trivial, trivial, trivial, trivial, trivial, trivial⟩
      · have ef : rw1 (a + 1) = rw2 a n := by
          show (List.range (a + 1)).flatMap _ = _
          rw [List.range_succ, List.flatMap_append]
          simp [rw2, rw1]
        rw [ef]
        exact o6
  · dsimp only at e3 ⊢
    obtain ⟨b, ys, h, r⟩ := o3
    exact s_retOwn (xs := ys) rfl e3 (k p ys H3 B3 hp X3 h b r)
abbrev spLRank (K : PySem.W.Frag) : Sp := spD K (fun a : Nat × Tb => [tabD a.1 a.2]) (fun a => a.1 ≤ 3 ∧ LrFine a.1 (rowsOf a.1 a.2)) fun a => .int ((reducedL a.1 (rowsOf a.1 a.2)).length : Int)
include bi in
theorem ok_law_rank {f : Addr} {fd : FuncData} (F : L2.Fun K "_law_rank" "_law_rank" st_law_rank f fd) (c_law_reduced : Wk.Cal P w K mg base 3 "_law_reduced" (spLReduced K)) : FnOk P w K mg base CX0 4 f fd ["_law_table_here"] (spLRank K) := by
  refine okD F sc_law_rank (fun _ => rfl) (by decide) fun ⟨n, T⟩ cdv A outer s H σ Q E B hr ⟨hn, hf⟩ eb e k => ⟨_, (pss_one (ps_ret (pe_callB (r := rLenSq K) call_len_seq (by rfl) bi.len (by decide +kernel) (pa_cons (pe_cal c_law_reduced hr (by decide) (by rfl) (pa_cons (pe_callTy (r := rListOf K) call_list_of (by rfl) bi.list (by decide +kernel) (pa_cons (pv 0) pa_nil)) pa_nil)) pa_nil)))), ?_⟩
  dsimp only at hn hf e k
  refine s_ret ((ev_cb (ea_cons (ev_call (ea_cons ((en_cb (ea_cons (ev_var rfl) ea_nil) (cv_list (k := false))).dat.cast (b := rowsD true false n (rowsOf n T)) ?_) ea_nil) (spD_v (⟨true, false, n, rowsOf n T⟩ : RdA) ⟨by dsimp only; omega, hf, ?_⟩)) ea_nil) (cv_len (k := true))).cast ?_) e eb fun u H5 B5 x5 r5 => k u H5 B5 x5 r5
  · unfold rowsD rowsOf
    show PyData.list _ = PyData.list _
    rw [List.map_map]
    rfl
  · rw [List.length_map]
  · show (rowsOf n T).length ≤ 100
    unfold rowsOf
    rw [List.length_map, List.length_range]
    omega
abbrev spLChanges (K : PySem.W.Frag) : Sp := spD K (fun a : TsA => [tabsD false a.n a.Ts, tabsD false a.n a.Os]) (fun a => a.n ≤ 3 ∧ 0 < a.Ts.length ∧ a.Ts.length ≤ 3 ∧ a.Ts.length = a.Os.length ∧ NullLFine (a.n * a.n) (condRows a.n a.Ts a.Os)) fun a => tabsD true a.n ((nullsL (a.n * a.n) (condRows a.n a.Ts a.Os)).map (tabOf a.n))
include bi in
theorem ok_law_changes {f : Addr} {fd : FuncData} (F : L2.Fun K "_law_changes" "_law_changes" st_law_changes f fd) (c_law_conditions : Wk.Cal P w K mg base 1 "_law_conditions" (spSumsFor K)) (c_law_nulls : Wk.Cal P w K mg base 4 "_law_nulls" (spLNulls K)) (c_law_folded : Wk.Cal P w K mg base 1 "_law_folded" (spFolded K)) : FnOk P w K mg base CX0 5 f fd ["_law_tables_here", "_law_others"] (spLChanges K) := by
  refine okD F sc_law_changes (fun _ => rfl) (by decide) fun ⟨n, Ts, Os⟩ cdv A outer s H σ Q E B hr ⟨hn, h0, h3, hl, hf⟩ eb e k => ⟨_, (pss_cons (ps_asg (pe_tup (pa_cons (pe_callB (r := rLenSq K) call_len_seq (by rfl) bi.len (by decide +kernel) (pa_cons (pe_ix (r := rIx K) ix_seq (pv 0) pe_int (fun _ _ => rfl)) pa_nil)) (pa_cons (pe_lst pa_nil) pa_nil))) (pg_tup (by rfl) (pgs_cons (pg_name (i := 3) sc_law_changes.nd rfl (by first | exact Or.inl rfl | exact Or.inr rfl)) (pgs_cons (pg_name (i := 4) sc_law_changes.nd rfl (by first | exact Or.inl rfl | exact Or.inr rfl)) pgs_nil))))
      (pss_cons (ps_for PassesOwn.never (by rfl) (pi_range1 (by rfl) bi.range (pa_cons (pe_callB (r := rLenSq K) call_len_seq (by rfl) bi.len (by decide +kernel) (pa_cons (pv 0) pa_nil)) pa_nil)) (pg_name (i := 2) sc_law_changes.nd rfl (by first | exact Or.inl rfl | exact Or.inr rfl)) (pss_one (ps_set (i := 4) sc_law_changes.nd rfl (by first | exact Or.inl rfl | exact Or.inr rfl) (pe_op op_cat (pv 4) (pe_cal c_law_conditions hr (by decide) (by rfl) (pa_cons (pv 3) (pa_cons (pe_ix (r := rIx K) ix_seq (pv 0) (pv 2) (fun _ _ => rfl)) (pa_cons (pe_ix (r := rIx K) ix_seq (pv 1) (pv 2) (fun _ _ => rfl)) pa_nil))))))))
      (pss_one (ps_ret (pe_lc (own := [("_law_line", 5)]) (wi := iSq K _) (g := gName 5) (by rfl) sc_law_changes.nd (pi_sq (pe_cal c_law_nulls hr (by decide) (by rfl) (pa_cons (pv 4) (pa_cons (pe_op op_mulW (pv 3) (pv 3)) pa_nil)))) (blkOk_by (N := N_law_changes) (sc := (defScope st_law_changes)) (by decide +kernel)) (fun _ _ _ _ _ => (pg_name (i := 5) sc_law_changes.nd rfl (by first | exact Or.inl rfl | exact Or.inr rfl))) (fun _ _ _ _ _ => pts_nil) (fun _ _ _ _ _ => (pe_cal c_law_folded hr (by decide) (by rfl) (pa_cons (pv 5) (pa_cons (pv 3) pa_nil))))))))), ?_⟩
  dsimp only at hn h0 h3 hl hf e k
  have n9 := nn9' hn
  refine s_tupE (ev_size (ev_var rfl) h0) (en_lst ea_nil (by simp)).liv e eb fun σ1 H1 B1 x1 e1 => ?_
  let pr : Nat → List Vec := fun i => ((Ts.zip Os).take i).flatMap fun p => sumsFor n p.1 p.2
  have lz : ∀ i, (pr i).length ≤ i * 9 := fun i => by
    show (((Ts.zip Os).take i).flatMap fun p => sumsFor n p.1 p.2).length ≤ _
    rw [cond_len, List.length_take]
    exact Nat.mul_le_mul (by omega) n9
  have ts : ((Ts.map (tabD n)).length : Int).toNat = Ts.length := by rw [List.length_map]; rfl
  refine s_for (n := ((Ts.map (tabD n)).length : Int).toNat) (B0 := B) (H0 := H) (Gi := fun i => [.dat (tabsD false n Ts), .dat (tabsD false n Os), .no, .dat (.int (n : Int)), .liv ((pr i).map (rowD true (n * n))), .no]) (Φ := fun _ i B' H' => True) (w_rng1 (ea_cons (ev_cb (ea_cons (ev_var rfl) ea_nil) (cv_len (k := false) (ds := Ts.map (tabD n)))) ea_nil) ⟨by omega, by rw [List.length_map]; omega⟩) e1 x1 (fun B2 H2 x2 => ⟨⟨rfl, rfl, trivial, rfl, rfl, trivial, trivial⟩, trivial⟩) (fun B2 i σ3 B3 H3 H4 hi X3 b3 o3 x4 e3 => ?_) (fun B2 σ3 B3 H3 e3 X3 o3 => ?_)
  · rw [ts] at hi
    refine s_asg (en_cat (ev_liv rfl) (en_call (ea_cons (ev_var rfl) (ea_cons (ev_ix (k := false) (ev_var rfl) (ev_var rfl) rfl (tab_at hi)) (ea_cons (ev_ix (k := false) (ev_var rfl) (ev_var rfl) rfl (tab_at (by omega))) ea_nil))) (spN_v (⟨n, tbl Ts i, tbl Os i⟩ : SuA) hn)).liv (by
      rw [List.length_map, List.length_map, sumsFor_len]
      have := lz i
      dsimp only
      omega)).liv e3 x4.le fun σ5 H5 B5 x5 e5 => ?_
    have ef : pr (i + 1) = pr i ++ sumsFor n (tbl Ts i) (tbl Os i) := by
      show (((Ts.zip Os).take (i + 1)).flatMap fun p => sumsFor n p.1 p.2) = _
      rw [zip_take (by omega) (by omega), List.flatMap_append]
      simp [pr]
    refine ⟨B5, e5.le ?_, (X3.trans x4).trans x5, b3.trans (x4.bb.trans x5.bb), trivial⟩
    show Gle [_, _, _, _, .liv ((pr (i + 1)).map (rowD true (n * n))), _] _
    rw [ef, List.map_append]
    exact ⟨rfl, rfl, trivial, rfl, rfl, trivial, trivial⟩
  · dsimp only at e3 ⊢
    rw [ts] at e3
    have ef : pr Ts.length = condRows n Ts Os := by
      show (((Ts.zip Os).take Ts.length).flatMap fun p => sumsFor n p.1 p.2) = _
      rw [List.take_of_length_le (by rw [List.length_zip]; omega)]
      rfl
    have l27 := lz Ts.length
    rw [ef] at l27 e3
    have nl : (nullsL (n * n) (condRows n Ts Os)).length ≤ 9 := Nat.le_trans (reducedL_ok (w := n * n)).1.leads_lt n9
    refine s_ret ((en_lc (p := fun _ => true) (f := fun i => tabD n (tabOf n (La.row (nullsL (n * n) (condRows n Ts Os)) i))) (w_sq (k := true) (item := fun i => rowD false (n * n) (La.row (nullsL (n * n) (condRows n Ts Os)) i)) ((ev_call (ea_cons (ev_liv rfl).dat (ea_cons (ev_mul (ev_var rfl) (ev_var rfl) (small_mul (by omega) (by omega))) ea_nil)) (spD_v (⟨true, true, n * n, condRows n Ts Os⟩ : NuA) ⟨n9, hf, by dsimp only; omega⟩))) fun i hi => row_in hi) (by rw [List.length_map]; omega) (by decide) (fun _ _ => et_yes) (fun i hi _ => ev_call (ea_cons (ev_var rfl) (ea_cons (ev_var rfl) ea_nil)) (spD_v (⟨false, n, La.row (nullsL (n * n) (condRows n Ts Os)) i⟩ : FoA) hn))).dat.cast ?_) e3 X3.le fun u H5 B5 x5 r5 => k u H5 B5 (X3.trans x5) r5
    rw [picked_all, List.length_map, row_map (f := fun v => tabD n (tabOf n v))]
    show PyData.list _ = PyData.list (((nullsL (n * n) (condRows n Ts Os)).map (tabOf n)).map (tabD n))
    rw [List.map_map]
    rfl
end
end At
-- V25
namespace At
open PySem PySem.Spec PyProof.Rows L2 Wk La
abbrev st_law_draw : Stmt := topS 48
abbrev N_law_draw : List Str := ["_law_well_here", "_law_many", "_law_seed", "_law_digit"]
theorem sc_law_draw : FnScope N_law_draw ["_law_well_here", "_law_many"] (defScope st_law_draw) := ⟨rfl, rfl, rfl, by decide +kernel, rfl, by decide +kernel, by decide +kernel⟩
abbrev st_law_pick : Stmt := topS 49
abbrev N_law_pick : List Str := ["_law_well_here", "_law_choices"]
theorem sc_law_pick : FnScope N_law_pick ["_law_well_here", "_law_choices"] (defScope st_law_pick) := ⟨rfl, rfl, rfl, by decide +kernel, rfl, by decide +kernel, by decide +kernel⟩
abbrev st_law_small : Stmt := topS 60
abbrev N_law_small : List Str := ["_law_well_here", "_law_wide"]
theorem sc_law_small : FnScope N_law_small ["_law_well_here", "_law_wide"] (defScope st_law_small) := ⟨rfl, rfl, rfl, by decide +kernel, rfl, by decide +kernel, by decide +kernel⟩
section
variable {P : Program} {w : World} {K : PySem.W.Frag} {mg : Str → Option Value} {base : Heap} (bi : Bi mg)
abbrev spLDraw (K : PySem.W.Frag) : Sp := spW K 1 (fun m : Nat => [.dat (.int (m : Int))]) (fun m => 1 ≤ m ∧ m < 1000) fun m t => ∃ x : Int, t = .dat (.int x) ∧ 0 ≤ x ∧ x < m
include bi in
theorem ok_law_draw {f : Addr} {fd : FuncData} (F : L2.Fun K "_law_draw" "_law_draw" st_law_draw f fd) : FnOk P w K mg base CX0 1 f fd ["_law_well_here", "_law_many"] (spLDraw K) := by
  refine okW F sc_law_draw (fun _ => rfl) (by decide) fun m p M cdv A outer s H σ Q E B B0 H0 hr ⟨h1, h2⟩ X n0 ⟨a, b, c, o, a0, a1, b0, b1⟩ hM e k => ⟨_, (pss_cons (ps_if (pt_cmpR op_gt (pe_ix (r := rIx K) ix_seq (pv 0) pe_int (fun _ _ => rfl)) pe_int (nomark _)) (pss_cons (ps_asg (pe_callB (r := rDivW) cr_divmod (by rfl) bi.divmod (by decide +kernel) (pa_cons (pe_ix (r := rIx K) ix_seq (pv 0) pe_int (fun _ _ => rfl)) (pa_cons (pv 1) pa_nil))) (pg_tup (by rfl) (pgs_cons (pg_sub (pv 0) pe_int set_list) (pgs_cons (pg_name (i := 3) sc_law_draw.nd rfl (by first | exact Or.inl rfl | exact Or.inr rfl)) pgs_nil))))
      (pss_one (ps_ret (pv 3)))) pss_nil)
      (pss_cons (ps_asg (pe_op op_add (pe_ix (r := rIx K) ix_seq (pv 0) pe_int (fun _ _ => rfl)) pe_int) (pg_sub (pv 0) pe_int set_list))
      (pss_cons (ps_set (i := 2) sc_law_draw.nd rfl (by first | exact Or.inl rfl | exact Or.inr rfl) (pe_callTy call_int1 (by rfl) bi.int (by decide +kernel) (pa_cons (pe_ix (r := rIx K) ix_seq (pv 0) pe_int (fun _ _ => rfl)) pa_nil)))
      (pss_cons (ps_asg (pe_op op_modN (pe_callTy call_int1 (by rfl) bi.int (by decide +kernel) (pa_cons (pe_op op_add (pe_op op_add (pe_op op_mulW (pv 2) pe_int) (pe_op op_mulW (pe_ix (r := rIx K) ix_seq (pv 0) pe_int (fun _ _ => rfl)) pe_int)) pe_int) pa_nil)) pe_int) (pg_sub (pv 0) pe_int set_list))
      (pss_one (ps_ret (pe_op op_modN (pe_callTy call_int1 (by rfl) bi.int (by decide +kernel) (pa_cons (pe_op op_fdivG (pe_ix (r := rIx K) ix_seq (pv 0) pe_int (fun _ _ => rfl)) pe_int) pa_nil)) (pv 1)))))))), ?_⟩
  refine o.ifP (i := 0) rfl e X.le (et_test (ev_gt (ev_ix (k := true) (n := 2) (ev_var rfl) ev_int rfl rfl) ev_int)) (fun hb H1 x1 => ?_) (fun hb H1 x1 => ?_)
  · have hc := of_decide_eq_true hb
    have o1 := o.ext x1
    refine o1.peek (i := 0) rfl e (X.trans x1).le (ev_ix (k := true) (n := 2) (ev_var rfl) ev_int rfl rfl) fun H2 x2 => ?_
    obtain ⟨v, hv, rv⟩ := env_dat (i := 1) (t := .dat (.int (m : Int))) e rfl
    cases dp_int rv
    obtain ⟨bp, xs, hp, r⟩ := o1.ext x2
    have X2 := (X.trans x1).trans x2
    refine ⟨_, hv, c, m, rfl, divw_ok (by omega) (by omega), fun T hT => ⟨T, _, rfl, Evl.st_of upd_same, rfl, _, _, rfl, .ref p, env_dat (i := 0) (t := .val (.ref p)) e rfl, ?_⟩⟩
    have ne : p ≠ T := fun z => by rw [← z, hp] at hT; cases hT
    refine ⟨p, xs, 2, 2, rfl, rfl, by rw [upd_ne ne]; exact hp, Evl.ixN_nat (by rw [dps_len r]; simp), _, _, rfl, rfl, ?_⟩
    have X3 := (X2.trans (Ext.hide (o := .tup [.int (c / m), .int (c % m)]) X2.le hT)).mut (p := p) (o := .lst (xs.set 2 (.int (c / m)))) n0 bp
    refine s_ret (te := tVar 3) (ev_var rfl) (e.set (i := 3) (v := .int (c % m)) (t := .dat (.int (c % m))) (ok_dat (.int _))) X3.le fun u H5 B5 x5 r5 => ?_
    refine k u _ H5 B5 ⟨c % m, rfl, Int.emod_nonneg _ (by omega), Int.emod_lt_of_pos _ (by omega)⟩ (X3.trans x5) (Well.ext ⟨a, b, c / m, ⟨bp, _, upd_same, ?_⟩, a0, a1, b0, by omega⟩ x5) (ok_dat r5)
    exact dps_set (.int _) 2 r
  · dsimp only [tNext]
    have o1 := o.ext x1
    have X1 := X.trans x1
    refine o1.setP (i := 0) (m := 1) rfl ev_int rfl (ev_add (ev_ix (k := true) (n := 1) (ev_var rfl) ev_int rfl rfl) ev_int) e X1 n0 (by simp) fun H2 B2 X2 kp2 o2 e2 => ?_
    refine o2.asgP (i := 0) rfl e2 X2.le (ev_cb (ea_cons (ev_ix (k := true) (n := 0) (ev_var rfl) ev_int rfl rfl) ea_nil) cv_int) fun σ3 H3 x3 e3 => ?_
    have m9 : ∀ {x y : Int}, x.natAbs < 2 ^ 60 → y.natAbs < 2 ^ 60 → CMulW x y := fun hx hy => mul9 (Nat.lt_of_lt_of_le hx (Nat.pow_le_pow_right (by decide) (by omega))) (Nat.lt_of_lt_of_le hy (Nat.pow_le_pow_right (by decide) (by omega)))
    refine (o2.ext x3).setP (i := 0) (m := 0) rfl ev_int rfl (ev_fmod (ev_cb (ea_cons (ev_add (ev_add (ev_mul (ev_var rfl) ev_int (m9 (by omega) (by decide))) (ev_mul (ev_ix (k := true) (n := 1) (ev_var rfl) ev_int rfl rfl) ev_int (m9 (by omega) (by decide)))) ev_int) ea_nil) cv_int) ev_int (by decide)) e3 (X2.trans x3) n0 (by simp) fun H4 B4 X4 kp4 o4 e4 => ?_
    generalize ha : Int.fmod (a * 39019 + (b + 1) * 47017 + 67) 2147483629 = a2 at o4
    have ha2 : 0 ≤ a2 ∧ a2 < 2147483629 := by
      rw [← ha, Int.fmod_eq_emod_of_nonneg _ (by decide)]
      exact ⟨Int.emod_nonneg _ (by decide), Int.emod_lt_of_pos _ (by decide)⟩
    have o4 : Own K p [.int a2, .int (b + 1), .int c] B4 H4 := o4
    refine o4.retP (i := 0) rfl e4 X4.le (ev_fmod (ev_cb (ea_cons (ev_fdiv (ev_ix (k := true) (n := 0) (ev_var rfl) ev_int rfl rfl) ev_int ⟨by decide, by decide⟩) ea_nil) cv_int) (ev_var rfl) (by omega)) fun H5 x5 => ?_
    refine k _ _ H5 B4 ⟨_, rfl, ?_⟩ (X4.trans x5) ⟨a2, b + 1, c, o4.ext x5, ha2.1, by omega, by omega, by omega⟩ (ok_dat (.int _))
    rw [Int.fmod_eq_emod_of_nonneg _ (by omega)]
    exact ⟨Int.emod_nonneg _ (by omega), Int.emod_lt_of_pos _ (by omega)⟩
theorem Ent.le_refl : ∀ t : Ent, Ent.le t t := fun t => by cases t <;> first | rfl | trivial
theorem we_draw {p : Addr} {G : Gam} {te tw : TE} {E : XK} {m c : Nat} (h : Wk.Ev K tw G (.val (.ref p))) (hm : WE K p c te G (· = .dat (.int (m : Int)))) (h1 : 1 ≤ m ∧ m < 1000) : WE K p (c + 1) (tCall (spLDraw K) [] E (tCons tw (tCons te tNil))) G fun t => ∃ x : Int, t = .dat (.int x) ∧ 0 ≤ x ∧ x < m :=
  (we_call (wa_cons h.we (wa_cons hm wa_nil)) (fun ts ⟨t, us, e1, e2, t2, us2, e3, e4, e5⟩ => ⟨m, by rw [e1, e2, e3, e4, e5], h1, fun t ht => ht⟩)).le (by omega) fun t ht => ⟨t, At.Ent.le_refl t, ht⟩
abbrev spLPick (K : PySem.W.Frag) : Sp := spW K 1 (fun es : List D => [.dat (.list es)]) (fun es => 1 ≤ es.length ∧ es.length < 1000) fun es t => ∃ d, t = .dat d ∧ d ∈ es
include bi in
theorem ok_law_pick {f : Addr} {fd : FuncData} (F : L2.Fun K "_law_pick" "_law_pick" st_law_pick f fd) (c_law_draw : Wk.Cal P w K mg base 1 "_law_draw" (spLDraw K)) : FnOk P w K mg base CX0 2 f fd ["_law_well_here", "_law_choices"] (spLPick K) := by
  refine okW F sc_law_pick (fun _ => rfl) (by decide) fun es p M cdv A outer s H σ Q E B B0 H0 hr h1 X n0 wl hM e k => ⟨_, (pss_one (ps_ret (pe_ix (r := rIx K) ix_seq (pv 1) (pe_cal c_law_draw hr (by decide) (by rfl) (pa_cons (pv 0) (pa_cons (pe_callB (r := rLenSq K) call_len_seq (by rfl) bi.len (by decide +kernel) (pa_cons (pv 1) pa_nil)) pa_nil))) (fun _ _ => rfl)))), ?_⟩
  refine sw_ret (c := 1) ((we_op (R := (· = .list es)) (S := fun y => ∃ i : Int, y = .int i ∧ 0 ≤ i ∧ i < (es.length : Int)) (T := (· ∈ es)) ((ev_var rfl).we.le (Nat.le_refl 0) fun t ht => ⟨t, At.Ent.le_refl t, .list es, ht, rfl⟩) ((we_draw (m := es.length) (ev_val rfl) (ev_cb (ea_cons (ev_var rfl) ea_nil) (cv_len (k := true) (ds := es))).we h1).le (Nat.le_refl _) fun t ⟨x, et, hx⟩ => ⟨t, At.Ent.le_refl t, .int x, et, x, rfl, hx⟩) (fun x y hx ⟨i, hy, h0, hi⟩ => ?_)).le (by omega) fun t ht => ⟨t, At.Ent.le_refl t, ht⟩) e X n0 wl hM fun v t H' B' ⟨d, et, hd⟩ X' w' r => k v t H' B' ⟨d, et, hd⟩ X' w' r
  subst hx hy
  have hl : i.toNat < es.length := by omega
  exact ⟨es[i.toNat], List.getElem_mem hl, rv_ix (k := true) (n := i.toNat) (by omega) (List.getElem?_eq_getElem hl)⟩
/-- a small number: 0, 1, -1 or any of -w .. w -/
abbrev spLSmall (K : PySem.W.Frag) : Sp := spW K 2 (fun m : Nat => [.dat (.int (m : Int))]) (fun m => 1 ≤ m ∧ m < 400) fun m t => ∃ x : Int, t = .dat (.int x) ∧ -(m : Int) ≤ x ∧ x ≤ m
include bi in
theorem ok_law_small {f : Addr} {fd : FuncData} (F : L2.Fun K "_law_small" "_law_small" st_law_small f fd) (c_law_draw : Wk.Cal P w K mg base 1 "_law_draw" (spLDraw K)) (c_law_pick : Wk.Cal P w K mg base 2 "_law_pick" (spLPick K)) : FnOk P w K mg base CX0 3 f fd ["_law_well_here", "_law_wide"] (spLSmall K) := by
  refine okW F sc_law_small (fun _ => rfl) (by decide) fun m p M cdv A outer s H σ Q E B B0 H0 hr ⟨h1, h2⟩ X n0 wl hM e k => ⟨_, (pss_one (ps_ret (pe_cal c_law_pick hr (by decide) (by rfl) (pa_cons (pv 0) (pa_cons (pe_lst (pa_cons pe_int (pa_cons pe_int (pa_cons pe_int (pa_cons pe_int (pa_cons (pe_un un_neg pe_int) (pa_cons (pe_op op_sub (pe_cal c_law_draw hr (by decide) (by rfl) (pa_cons (pv 0) (pa_cons (pe_op op_add (pe_op op_mulW pe_int (pv 1)) pe_int) pa_nil))) (pv 1)) pa_nil))))))) pa_nil))))), ?_⟩
  let PS : D → Prop := fun d => ∃ x : Int, d = .int x ∧ -(m : Int) ≤ x ∧ x ≤ m
  have m9 : CMulW (2 : Int) (m : Int) := small_mul (a := 2) (b := m) (by omega) (by omega)
  have hi : ∀ {te : TE} {G : Gam} {x : Int}, ED K te G (.int x) → -(m : Int) ≤ x → x ≤ m → WE K p 0 te G fun t => ∃ d, t = .dat d ∧ PS d := fun h a b => h.we.le (Nat.le_refl 0) fun t ht => ⟨t, At.Ent.le_refl t, .int _, ht, _, rfl, a, b⟩
  have ld : WE K p 1 (tOp (rI0 fun i j => .int (i - j)) (tCall (spLDraw K) [] E0 (tCons (tVar 0) (tCons (tOp (rI0 fun i j => .int (i + j)) (tOp (rI CMulW fun i j => .int (i * j)) (tC (.int 2)) (tVar 1)) (tC (.int 1))) tNil))) (tVar 1)) [.val (.ref p), .dat (.int (m : Int))] fun t => ∃ d, t = .dat d ∧ PS d := by
    refine (we_op (R := fun y => ∃ i : Int, y = .int i ∧ 0 ≤ i ∧ i < ((2 * m + 1 : Nat) : Int)) (S := (· = .int (m : Int))) (T := PS) ((we_draw (m := 2 * m + 1) (ev_val rfl) ((ev_add (ev_mul ev_int (ev_var rfl) m9) ev_int).cast (b := .int ((2 * m + 1 : Nat) : Int)) (by rfl)).we ⟨by omega, by omega⟩).le (Nat.le_refl _) fun t ⟨x, et, hx⟩ => ⟨t, At.Ent.le_refl t, .int x, et, x, rfl, hx⟩) ((ev_var rfl).we.le (Nat.le_refl 0) fun t ht => ⟨t, At.Ent.le_refl t, _, ht, rfl⟩) (fun x y ⟨i, hx, h0, hl⟩ hy => ?_)).le (by omega) fun t ht => ⟨t, At.Ent.le_refl t, ht⟩
    subst hx hy
    exact ⟨.int (i - m), ⟨_, rfl, by omega, by omega⟩, rv_I0 fun _ => .int _⟩
  refine sw_ret (c := 2) (R := fun t => ∃ d, t = .dat d ∧ PS d) ((we_call (wa_cons (ev_val rfl).we (wa_cons (we_lst (c := 1) (S := fun ds => ds.length = 6 ∧ ∀ d ∈ ds, PS d) (WA.le (wa_cons (hi ev_int (by omega) (by omega)) (wa_cons (hi ev_int (by omega) (by omega)) (wa_cons (hi ev_int (by omega) (by omega)) (wa_cons (hi ev_int (by omega) (by omega)) (wa_cons (hi (ev_neg ev_int) (by omega) (by omega)) (wa_cons ld wa_nil)))))) (by omega) ?_) fun ds h => by omega) wa_nil)) ?_).le (by omega) fun t ht => ⟨t, At.Ent.le_refl t, ht⟩) e X n0 wl hM fun v t H' B' ⟨d, et, x, ed, hx⟩ X' w' r => k v t H' B' ⟨x, by rw [et, ed], hx⟩ X' w' r
  · rintro ts ⟨_, _, rfl, ⟨a, rfl, ha⟩, _, _, rfl, ⟨b, rfl, hb⟩, _, _, rfl, ⟨c, rfl, hc⟩, _, _, rfl, ⟨d, rfl, hd⟩, _, _, rfl, ⟨f, rfl, hf⟩, _, _, rfl, ⟨g, rfl, hg⟩, rfl⟩
    refine ⟨[a, b, c, d, f, g], rfl, rfl, fun x hx => ?_⟩
    simp only [List.mem_cons, List.not_mem_nil, or_false] at hx
    rcases hx with rfl | rfl | rfl | rfl | rfl | rfl <;> assumption
  · rintro ts ⟨_, _, rfl, rfl, _, _, rfl, ⟨ds, rfl, hl, hd⟩, rfl⟩
    exact ⟨ds, rfl, by omega, fun t ⟨d, et, hm⟩ => ⟨d, et, hd d hm⟩⟩
end
end At
-- V26
namespace At
open PySem PySem.Spec PyProof.Rows L2 Wk La
abbrev st_law_table : Stmt := topS 61
abbrev N_law_table : List Str := ["_law_well_here", "_law_size", "_law_way", "_law_found", "_law_k", "_law_line", "_law_j", "_law_part"]
theorem sc_law_table : FnScope N_law_table ["_law_well_here", "_law_size", "_law_way"] (defScope st_law_table) := ⟨rfl, rfl, rfl, by decide +kernel, rfl, by decide +kernel, by decide +kernel⟩
structure TaA where
  n : Nat
  way : Int
section
variable {P : Program} {w : World} {K : PySem.W.Frag} {mg : Str → Option Value} {base : Heap} (bi : Bi mg)
def TabR (n b : Nat) (t : Ent) : Prop := ∃ T : Tb, t = .dat (tabD n T) ∧ ∀ i j, i < n → j < n → (T i j).natAbs ≤ b
abbrev spLTable (K : PySem.W.Frag) : Sp := spW K 18 (fun a : TaA => [.dat (.int (a.n : Int)), .dat (.int a.way)]) (fun a => 1 ≤ a.n ∧ a.n ≤ 3) fun a t => TabR a.n 3 t
include bi in
theorem ok_law_table {f : Addr} {fd : FuncData} (F : L2.Fun K "_law_table" "_law_table" st_law_table f fd) (c_law_small : Wk.Cal P w K mg base 3 "_law_small" (spLSmall K)) : FnOk P w K mg base CX0 4 f fd ["_law_well_here", "_law_size", "_law_way"] (spLTable K) := by
  refine okW F sc_law_table (fun _ => rfl) (by decide) fun ⟨n, way⟩ p M cdv A outer s H σ Q E B B0 H0 hr ⟨h1, h3⟩ X n0 wl hM e k => ⟨_, (pss_cons (ps_set (i := 3) sc_law_table.nd rfl (by first | exact Or.inl rfl | exact Or.inr rfl) (pe_lst pa_nil))
      (pss_cons (ps_for PassesOwn.never (by rfl) (pi_range1 (by rfl) bi.range (pa_cons (pv 1) pa_nil)) (pg_name (i := 4) sc_law_table.nd rfl (by first | exact Or.inl rfl | exact Or.inr rfl)) (pss_cons (ps_set (i := 5) sc_law_table.nd rfl (by first | exact Or.inl rfl | exact Or.inr rfl) (pe_lst pa_nil))
      (pss_cons (ps_for PassesOwn.never (by rfl) (pi_range1 (by rfl) bi.range (pa_cons (pv 1) pa_nil)) (pg_name (i := 6) sc_law_table.nd rfl (by first | exact Or.inl rfl | exact Or.inr rfl)) (pss_cons (ps_set (i := 7) sc_law_table.nd rfl (by first | exact Or.inl rfl | exact Or.inr rfl) (pe_cal c_law_small hr (by decide) (by rfl) (pa_cons (pv 0) (pa_cons pe_int pa_nil))))
      (pss_cons (ps_if ((pw_or ((pw_and (pt_cmpR (r := rEqD K) (op_eqD hr.units) (pv 2) pe_int (nomark _)) (pw_and1 (pt_cmpR op_lt (pv 6) (pv 4) (nomark _))))).pt (pw_or ((pw_and (pt_cmpR (r := rEqD K) (op_eqD hr.units) (pv 2) pe_int (nomark _)) (pw_and1 (pt_cmpR (r := rNeD K) (op_neD hr.units) (pv 6) (pv 4) (nomark _))))).pt (pw_or1 ((pw_and (pt_cmpR (r := rEqD K) (op_eqD hr.units) (pv 2) pe_int (nomark _)) (pw_and1 (pt_cmpR op_le (pv 6) (pv 4) (nomark _))))).pt)))).pt (pss_one (ps_set (i := 7) sc_law_table.nd rfl (by first | exact Or.inl rfl | exact Or.inr rfl) pe_int)) pss_nil)
      (pss_one (ps_expr (pe_bm PySem.F.plainAttrs_list PySem.F.slot_list_append PySem.F.type_list_append mt_append (pv 5) (pa_cons (pv 7) pa_nil)))))))
      (pss_one (ps_expr (pe_bm PySem.F.plainAttrs_list PySem.F.slot_list_append PySem.F.type_list_append mt_append (pv 3) (pa_cons (pe_callTy (r := rTupOf K) call_tuple_of (by rfl) bi.tuple (by decide +kernel) (pa_cons (pv 5) pa_nil)) pa_nil)))))))
      (pss_one (ps_ret (pe_callTy (r := rTupOf K) call_tuple_of (by rfl) bi.tuple (by decide +kernel) (pa_cons (pv 3) pa_nil)))))), ?_⟩
  dsimp only at h1 h3 e k
  have wp : H p ≠ none := by
    obtain ⟨_, _, _, ⟨_, xs, hp, _⟩, _⟩ := wl
    rw [hp]
    exact fun z => nomatch z
  refine s_asgN (en_lst ea_nil (by simp)) e X.le fun pf xs σ1 H1 B1 hp x1 hh1 b1 r1 e1 => ?_
  have n0f : H0 pf = none := Evl.fresh_back X.ex hp
  have nef : pf ≠ p := fun z => wp (by rw [← z]; exact hp)
  let G0 : Ent → Ent → Gam := fun a b => [.val (.ref p), .dat (.int (n : Int)), .dat (.int way), .val (.ref pf), a, b, .no, .no]
  let fr : Tb → Nat → List D := fun T i => (List.range i).map fun r => rowD false n (T r)
  refine s_for (n := (n : Int).toNat) (B0 := B0) (H0 := H0) (Gi := fun _ => G0 .no .no) (Φ := fun _ i B' H' => Well K p (M + i * 6) B' H' ∧ ∃ T : Tb, Own K pf (fr T i) B' H' ∧ ∀ r j, r < i → j < n → (T r j).natAbs ≤ 3) (w_rng1 (ea_cons (ev_var rfl) ea_nil) ⟨by omega, by omega⟩) e1 (X.trans x1) (fun B2 H2 x2 => ⟨⟨rfl, rfl, rfl, rfl, trivial, trivial, trivial, trivial, trivial⟩, (wl.ext (x1.trans x2)).mono (by omega), fun _ _ => 0, (Own.to hh1 b1 r1).ext x2, fun r j h => absurd h (Nat.not_lt_zero r)⟩) (fun B2 i σ3 B3 H3 H4 hi X3 b3 ⟨w3, T, o3, hT⟩ x4 e3 => ?_) (fun B2 σ3 B3 H3 e3 X3 ⟨w3, T, o3, hT⟩ => ?_)
  · have hi : i < n := by omega
    have w4 := w3.ext x4
    have o4 := o3.ext x4
    have X4 := X3.trans x4
    have wp4 : H4 p ≠ none := by
      obtain ⟨_, _, _, ⟨_, xs, hp, _⟩, _⟩ := w4
      rw [hp]
      exact fun z => nomatch z
    refine s_asgN (en_lst ea_nil (by simp)) e3 X4.le fun pl ys σ5 H5 B5 hpl x5 hh5 b5 r5 e5 => ?_
    have n0l : H0 pl = none := Evl.fresh_back X4.ex hpl
    have nel : pl ≠ p := fun z => wp4 (by rw [← z]; exact hpl)
    have nlf : pl ≠ pf := o4.ne hpl
    have X5 := X4.trans x5
    refine s_for (n := (n : Int).toNat) (B0 := B0) (H0 := H0) (Gi := fun _ => G0 (.dat (.int (i : Int))) (.val (.ref pl))) (Φ := fun _ j B' H' => Evl.Ex B2 B' ∧ Well K p (M + i * 6 + j * 2) B' H' ∧ Own K pf (fr T i) B' H' ∧ ∃ v : Vec, Own K pl (vec j v) B' H' ∧ ∀ c, c < j → (v c).natAbs ≤ 3) (w_rng1 (ea_cons (ev_var rfl) ea_nil) ⟨by omega, by omega⟩) e5 X5 (fun B6 H6 x6 => ⟨⟨rfl, rfl, rfl, rfl, rfl, rfl, trivial, trivial, trivial⟩, b3.trans (x4.bb.trans (x5.bb.trans x6.bb)), (w4.ext (x5.trans x6)).mono (by omega), o4.ext (x5.trans x6), fun _ => 0, (Own.to hh5 b5 r5).ext x6, fun c h => absurd h (Nat.not_lt_zero c)⟩) (fun B6 j σ7 B7 H7 H8 hj X7 b7 ⟨c7, w7, o7, v, q7, hv⟩ x8 e7 => ?_) (fun B6 σ7 B7 H7 e7 X7 ⟨c7, w7, o7, v, q7, hv⟩ => ?_)
    · have hj : j < n := by omega
      refine sw_asg (c := 2) (R := fun t => ∃ x : Int, t = .dat (.int x) ∧ -(3 : Int) ≤ x ∧ x ≤ 3) ((we_call (wa_cons (ev_val rfl).we (wa_cons ev_int.we wa_nil)) (fun ts ⟨_, _, e1, e2, _, _, e3, e4, e5⟩ => ⟨(3 : Nat), by rw [e1, e2, e3, e4, e5]; rfl, by decide, fun t ht => ht⟩)).le (by omega) fun t ht => ⟨t, At.Ent.le_refl t, ht⟩) e7 (X7.trans x8) n0 (w7.ext x8) (by omega) fun t σ9 H9 B9 ⟨x, et, hx1, hx2⟩ X9 kp9 w9 e9 => ?_
      subst et
      have o9 := kp9.own pf _ nef (o7.ext x8)
      have q9 := kp9.own pl _ nel (q7.ext x8)
      refine s_ifSet (t := .dat (.int x)) (u := .dat (.int 0)) (et_or (et_and (et_test (ev_eqI (ev_var rfl) ev_int)) fun _ => et_test (ev_lt (ev_var rfl) (ev_var rfl))) fun _ => et_or (et_and (et_test (ev_eqI (ev_var rfl) ev_int)) fun _ => et_test (ev_neI (ev_var rfl) (ev_var rfl))) fun _ => et_and (et_test (ev_eqI (ev_var rfl) ev_int)) fun _ => et_test (ev_le (ev_var rfl) (ev_var rfl))) (fun _ => ev_int) rfl e9 X9.le fun σ10 H10 B10 x10 e10 => ?_
      have hy : ∀ b : Bool, ∃ y : Int, (if b = true then (Ent.dat (PyData.int 0)) else .dat (.int x)) = .dat (.int y) ∧ y.natAbs ≤ 3 := fun b => by
        cases b with
        | true => exact ⟨0, rfl, by decide⟩
        | false => exact ⟨x, rfl, by omega⟩
      obtain ⟨y, ey, hy⟩ := hy _
      rw [ey] at e10
      refine (q9.ext x10).app (i := 5) (d := .int y) rfl (ev_var rfl) e10 (X9.trans x10) n0l (by rw [vec_len]; omega) fun H11 B11 X11 kp11 q11 e11 => ?_
      have wl10 := w9.ext x10
      have wl11 : Well K p (M + i * 6 + j * 2 + 2) B11 H11 := by
        obtain ⟨a, b, c, o, r⟩ := wl10
        exact ⟨a, b, c, kp11.own p _ (fun z => nel z.symm) o, r⟩
      refine ⟨B11, e11.le ?_, X11, (b7.trans x8.bb).trans (kp9.bb.trans (x10.bb.trans kp11.bb)), (c7.trans x8.bb).trans (kp9.bb.trans (x10.bb.trans kp11.bb)), wl11.mono (by omega), kp11.own pf _ (fun z => nlf z.symm) (o9.ext x10), fun c => if c = j then y else v c, ?_, fun c hc => ?_⟩
      · exact ⟨rfl, rfl, rfl, rfl, rfl, rfl, trivial, trivial, trivial⟩
      · have ev : vec (j + 1) (fun c => if c = j then y else v c) = vec j v ++ [.int y] := by
          unfold vec
          rw [List.range_succ, List.map_append]
          congr 1
          · exact List.map_congr_left fun c hc => by
              have := List.mem_range.mp hc
              show PyData.int (if c = j then y else v c) = _
              rw [if_neg (by omega)]
          · simp
        rw [ev]
        exact q11
      · dsimp only
        split
        · exact hy
        · exact hv c (by omega)
    · dsimp only at e7 ⊢
      have en : (n : Int).toNat = n := rfl
      rw [en] at w7 q7 hv
      obtain ⟨B8, e8, X8, b8, kp8⟩ := q7.show_ e7 X7 n0l (i := 5) rfl
      have o8 := kp8 pf _ (fun z => nlf z.symm) o7
      have w8 : Well K p (M + i * 6 + n * 2) B8 H7 := by
        obtain ⟨a, b, c, o, r⟩ := w7
        exact ⟨a, b, c, kp8 p _ (fun z => nel z.symm) o, r⟩
      refine o8.app (i := 3) (d := rowD false n v) rfl (ev_cb (ea_cons (ev_var rfl) ea_nil) (cv_tuple (k := true))) e8 X8 n0f (by show ((List.range i).map _).length < _; rw [List.length_map, List.length_range]; omega) fun H9 B9 X9 kp9 o9 e9 => ?_
      have w9 : Well K p (M + i * 6 + n * 2) B9 H9 := by
        obtain ⟨a, b, c, o, r⟩ := w8
        exact ⟨a, b, c, kp9.own p _ (fun z => nef z.symm) o, r⟩
      refine ⟨B9, e9.le ?_, X9, (c7.trans b8).trans kp9.bb, w9.mono (by omega), fun r => if r = i then v else T r, ?_, fun r j hr hj => ?_⟩
      · exact ⟨rfl, rfl, rfl, rfl, trivial, trivial, trivial, trivial, trivial⟩
      · have ef : fr (fun r => if r = i then v else T r) (i + 1) = fr T i ++ [rowD false n v] := by
          show (List.range (i + 1)).map _ = (List.range i).map _ ++ _
          rw [List.range_succ, List.map_append]
          congr 1
          · exact List.map_congr_left fun c hc => by
              have := List.mem_range.mp hc
              show rowD false n (if c = i then v else T c) = _
              rw [if_neg (by omega)]
          · simp
        rw [ef]
        exact o9
      · dsimp only
        split
        · exact hv j hj
        · exact hT r j (by omega) hj
  · dsimp only at e3 ⊢
    have en : (n : Int).toNat = n := rfl
    rw [en] at w3 o3 hT
    obtain ⟨B4, e4, X4, b4, kp4⟩ := o3.show_ e3 X3 n0f (i := 3) rfl
    have w4 : Well K p (M + n * 6) B4 H3 := by
      obtain ⟨a, b, c, o, r⟩ := w3
      exact ⟨a, b, c, kp4 p _ (fun z => nef z.symm) o, r⟩
    exact s_ret (ev_cb (ea_cons (ev_var rfl) ea_nil) (cv_tuple (k := true))) e4 X4.le fun u H5 B5 x5 r5 => k u _ H5 B5 ⟨T, rfl, fun i j hi hj => hT i j hi hj⟩ (X4.trans x5) ((w4.ext x5).mono (by omega)) (ok_dat r5)
end
end At
-- V27
namespace At
open PySem PySem.Spec PyProof.Rows L2 Wk La
abbrev st_law_flat : Stmt := topS 58
abbrev N_law_flat : List Str := ["_law_table_here", "_law_found", "_law_line"]
theorem sc_law_flat : FnScope N_law_flat ["_law_table_here"] (defScope st_law_flat) := ⟨rfl, rfl, rfl, by decide +kernel, rfl, by decide +kernel, by decide +kernel⟩
abbrev st_law_step : Stmt := topS 62
abbrev N_law_step : List Str := ["_law_size", "_law_i", "_law_j", "_law_by", "_law_found", "_law_k", "_law_c"]
theorem sc_law_step : FnScope N_law_step ["_law_size", "_law_i", "_law_j", "_law_by"] (defScope st_law_step) := ⟨rfl, rfl, rfl, by decide +kernel, rfl, by decide +kernel, by decide +kernel⟩
theorem vec_app {a b : Nat} {v : Vec} : vec (a + b) v = vec a v ++ vec b fun j => v (a + j) := by
  unfold vec
  induction b with
  | zero => simp
  | succ b ih =>
    rw [← Nat.add_assoc, List.range_succ, List.map_append, ih, List.range_succ, List.map_append, List.append_assoc]
    rfl
structure StA where
  n : Nat
  i : Nat
  j : Nat
  b : Int
section
variable {P : Program} {w : World} {K : PySem.W.Frag} {mg : Str → Option Value} {base : Heap} (bi : Bi mg)
abbrev spLFlat (K : PySem.W.Frag) : Sp := spD K (fun a : Nat × Tb => [tabD a.1 a.2]) (fun a => a.1 ≤ 3) fun a => rowD false (a.1 * a.1) (flatOf a.1 a.2)
include bi in
theorem ok_law_flat {f : Addr} {fd : FuncData} (F : L2.Fun K "_law_flat" "_law_flat" st_law_flat f fd) : FnOk P w K mg base CX0 1 f fd ["_law_table_here"] (spLFlat K) := by
  refine okD F sc_law_flat (fun _ => rfl) (by decide) fun ⟨n, T⟩ cdv A outer s H σ Q E B hr hn eb e k => ⟨_, (pss_cons (ps_set (i := 1) sc_law_flat.nd rfl (by first | exact Or.inl rfl | exact Or.inr rfl) (pe_lst pa_nil))
      (pss_cons (ps_for PassesOwn.never (by rfl) (pi_sq (pv 0)) (pg_name (i := 2) sc_law_flat.nd rfl (by first | exact Or.inl rfl | exact Or.inr rfl)) (pss_one (ps_set (i := 1) sc_law_flat.nd rfl (by first | exact Or.inl rfl | exact Or.inr rfl) (pe_op op_cat (pv 1) (pe_callTy (r := rListOf K) call_list_of (by rfl) bi.list (by decide +kernel) (pa_cons (pv 2) pa_nil))))))
      (pss_one (ps_ret (pe_callTy (r := rTupOf K) call_tuple_of (by rfl) bi.tuple (by decide +kernel) (pa_cons (pv 1) pa_nil)))))), ?_⟩
  dsimp only at hn e k
  refine s_asg (en_lst ea_nil (by simp)).liv e eb fun σ1 H1 B1 x1 e1 => ?_
  have ll : ((List.range n).map fun i => rowD false n (T i)).length = n := by rw [List.length_map, List.length_range]
  have nn : ∀ i, i ≤ n → n * i ≤ 9 := fun i hi => by
    have : n * i ≤ 3 * 3 := Nat.mul_le_mul hn (by omega)
    omega
  refine s_for (n := ((List.range n).map fun i => rowD false n (T i)).length) (B0 := B) (H0 := H) (Gi := fun i => [.dat (tabD n T), .liv (vec (n * i) (flatOf n T)), .no]) (Φ := fun _ _ _ _ => True) (w_sq (k := false) (item := fun i => rowD false n (T i)) (ev_var rfl) fun i hi => range_at (by omega)) e1 x1 (fun B2 H2 x2 => ⟨⟨rfl, by rw [Nat.mul_zero]; rfl, trivial, trivial⟩, trivial⟩) (fun B3 i σ3 B' H' H3 hi X' b' _ x3 e3 => ?_) (fun B3 σ3 B' H' e3 X' _ => ?_)
  · rw [ll] at hi
    have l1 := nn i (by omega)
    refine s_asg (en_cat (ev_liv rfl) (en_cb (ea_cons (ev_var rfl) ea_nil) (cv_list (k := false) (ds := vec n (T i)))).liv (by rw [vec_len, vec_len]; omega)).liv e3 x3.le fun σ5 H5 B5 x5 e5 => ?_
    refine ⟨B5, e5.le ?_, (X'.trans x3).trans x5, b'.trans (x3.bb.trans x5.bb), trivial⟩
    refine ⟨rfl, ?_, trivial, trivial⟩
    show vec (n * (i + 1)) (flatOf n T) = vec (n * i) (flatOf n T) ++ vec n (T i)
    rw [Nat.mul_succ, vec_app]
    congr 1
    exact vec_congr fun j hj => tab_flat i j hi hj
  · dsimp only at e3 ⊢
    rw [ll] at e3
    exact s_ret (ev_cb (ea_cons (ev_liv rfl).dat ea_nil) (cv_tuple (k := true))) e3 X'.le fun u H5 B5 x5 r5 => k u H5 B5 (X'.trans x5) r5
abbrev spLStep (K : PySem.W.Frag) : Sp := spD K (fun a : StA => [.int (a.n : Int), .int (a.i : Int), .int (a.j : Int), .int a.b]) (fun a => 1 ≤ a.n ∧ a.n ≤ 3 ∧ a.b.natAbs ≤ 9) fun a => tabD a.n (stepT a.i a.j a.b)
include bi in
theorem ok_law_step {f : Addr} {fd : FuncData} (F : L2.Fun K "_law_step" "_law_step" st_law_step f fd) : FnOk P w K mg base CX0 1 f fd ["_law_size", "_law_i", "_law_j", "_law_by"] (spLStep K) := by
  refine okD F sc_law_step (fun _ => rfl) (by decide) fun ⟨n, a, b, by_⟩ cdv A outer s H σ Q E B hr ⟨h1, h3, hb⟩ eb e k => ⟨_, (pss_cons (ps_set (i := 4) sc_law_step.nd rfl (by first | exact Or.inl rfl | exact Or.inr rfl) (pe_lst pa_nil))
      (pss_cons (ps_for PassesOwn.never (by rfl) (pi_range1 (by rfl) bi.range (pa_cons (pv 0) pa_nil)) (pg_name (i := 5) sc_law_step.nd rfl (by first | exact Or.inl rfl | exact Or.inr rfl)) (pss_one (ps_expr (pe_bm PySem.F.plainAttrs_list PySem.F.slot_list_append PySem.F.type_list_append mt_append (pv 4) (pa_cons (pe_callTy (r := rTupOf K) call_tuple_of (by rfl) bi.tuple (by decide +kernel) (pa_cons (pe_lc (own := [("_law_c", 6)]) (wi := _) (g := gName 6) (by rfl) sc_law_step.nd (pi_range1 (by rfl) bi.range (pa_cons (pv 0) pa_nil)) (blkOk_by (N := N_law_step) (sc := (defScope st_law_step)) (by decide +kernel)) (fun _ _ _ _ _ => (pg_name (i := 6) sc_law_step.nd rfl (by first | exact Or.inl rfl | exact Or.inr rfl))) (fun _ _ _ _ _ => pts_nil) (fun _ _ _ _ _ => (pe_op op_add (pe_callTy call_int1 (by rfl) bi.int (by decide +kernel) (pa_cons (pe_cmpR (r := rEqD K) (op_eqD hr.units) (pv 6) (pv 5) (nomark _)) pa_nil)) (pe_op op_mulW (pv 3) (pe_callTy call_int1 (by rfl) bi.int (by decide +kernel) (pa_cons (pe_and (pe_cmpR (r := rEqD K) (op_eqD hr.units) (pv 5) (pv 1) (nomark _)) (pe_one (pe_cmpR (r := rEqD K) (op_eqD hr.units) (pv 6) (pv 2) (nomark _)))) pa_nil)))))) pa_nil)) pa_nil)))))
      (pss_one (ps_ret (pe_callTy (r := rTupOf K) call_tuple_of (by rfl) bi.tuple (by decide +kernel) (pa_cons (pv 4) pa_nil)))))), ?_⟩
  dsimp only at e h1 h3 hb k
  refine s_asgN (en_lst ea_nil (by simp)) e eb fun p xs σ2 H2 B2 hp x2 h2 b2 r2 e2 => ?_
  let pt : Nat → List D := fun m => (List.range m).map fun i => rowD false n (stepT a b by_ i)
  let G0 : Gam := [.dat (.int (n : Int)), .dat (.int (a : Int)), .dat (.int (b : Int)), .dat (.int by_), .val (.ref p), .no, .no]
  refine s_for (n := (n : Int).toNat) (B0 := B) (H0 := H) (Gi := fun _ => G0) (Φ := fun _ i B' H' => Own K p (pt i) B' H') (w_rng1 (ea_cons (ev_var rfl) ea_nil) ⟨by omega, by omega⟩) e2 x2 (fun B1 H1 x1 => ⟨⟨rfl, rfl, rfl, rfl, rfl, trivial, trivial, trivial⟩, (Own.to h2 b2 r2).ext x1⟩) (fun B3 i σ3 B' H' H3 hi X' b' o3 x3 e3 => ?_) (fun B3 σ3 B' H' e3 X' o3 => ?_)
  · have hi : i < n := by omega
    have X3 := X'.trans x3
    have one9 : ∀ q : Bool, CMulW by_ (if q = true then 1 else 0) := fun q => mul9 (Nat.lt_of_lt_of_le (show by_.natAbs < 2 ^ 10 by omega) (Nat.pow_le_pow_right (by decide) (by omega))) (Nat.lt_of_lt_of_le (show (if q = true then (1 : Int) else 0).natAbs < 2 ^ 10 by cases q <;> decide) (Nat.pow_le_pow_right (by decide) (by omega)))
    refine (o3.ext x3).app (d := rowD false n (stepT a b by_ i)) rfl ((ev_cb (ea_cons (en_lc (p := fun _ => true) (f := fun j => .int (stepT a b by_ i j)) (w_rng1 (ea_cons (ev_var rfl) ea_nil) ⟨by omega, by omega⟩) (by omega) (by decide) (fun _ _ => et_yes) (fun j hj _ => ?_)).dat ea_nil) (cv_tuple (k := true))).cast ?_) e3 X3 hp (by show ((List.range i).map _).length < _; rw [List.length_map, List.length_range]; omega) fun H5 B5 X5 kp o5 e5 => ?_
    · have hj : j < n := by omega
      refine (ev_add (ev_cb (ea_cons (ev_eqI (ev_var rfl) (ev_var rfl)) ea_nil) cv_intB) (ev_mul (ev_var rfl) (ev_cb (ea_cons (ev_and (ev_eqI (ev_var rfl) (ev_var rfl)) fun _ => ev_eqI (ev_var rfl) (ev_var rfl)) ea_nil) cv_intB) (one9 _))).cast ?_
      unfold stepT unitT
      congr 1
      have e1 : (((j : Nat) : Int) == (i : Int)) = decide (i = j) := by
        by_cases q : i = j
        · subst q; simp
        · have : ((j : Nat) : Int) ≠ (i : Int) := by omega
          simp [q, this]
      have e2 : ((((i : Nat) : Int) == (a : Int)) && (((j : Nat) : Int) == (b : Int))) = decide (i = a ∧ j = b) := by
        by_cases q : i = a <;> by_cases q2 : j = b
        · subst q q2; simp
        · have : ((j : Nat) : Int) ≠ (b : Int) := by omega
          simp [q2, this]
        · have : ((i : Nat) : Int) ≠ (a : Int) := by omega
          simp [q, this]
        · have : ((i : Nat) : Int) ≠ (a : Int) := by omega
          simp [q, this]
      rw [e1, e2]
      simp
    · rw [picked_all]
      rfl
    · refine ⟨B5, e5.le ?_, X5, (b'.trans x3.bb).trans kp.bb, ?_⟩
      · exact ⟨rfl, rfl, rfl, rfl, rfl, trivial, trivial, trivial⟩
      have ep : pt (i + 1) = pt i ++ [rowD false n (stepT a b by_ i)] := by
        show (List.range (i + 1)).map _ = _
        rw [List.range_succ, List.map_append]
        rfl
      rw [ep]
      exact o5
  · dsimp only at e3 ⊢
    obtain ⟨B4, e4, X4, b4, kp⟩ := o3.show_ e3 X' hp (i := 4) rfl
    exact s_ret (ev_cb (ea_cons (ev_var rfl) ea_nil) (cv_tuple (k := true))) e4 X4.le fun u H5 B5 x5 r5 => k u H5 B5 (X4.trans x5) r5
end
end At
-- V28
namespace At
open PySem PySem.Spec PyProof.Rows L2 Wk La
abbrev st_law_some_regular : Stmt := topS 68
abbrev N_law_some_regular : List Str := ["_law_some", "_law_size", "_law_sums", "_law_table_here", "_law_longer", "_law_found", "_law_by", "_law_line", "_law_k", "_law_j"]
theorem sc_law_some_regular : FnScope N_law_some_regular ["_law_some", "_law_size"] (defScope st_law_some_regular) := ⟨rfl, rfl, rfl, by decide +kernel, rfl, by decide +kernel, by decide +kernel⟩
abbrev st_law_is_change : Stmt := topS 69
abbrev N_law_is_change : List Str := ["_law_tables_here", "_law_others", "_law_thing", "_law_size", "_law_k", "_law_line"]
theorem sc_law_is_change : FnScope N_law_is_change ["_law_tables_here", "_law_others", "_law_thing"] (defScope st_law_is_change) := ⟨rfl, rfl, rfl, by decide +kernel, rfl, by decide +kernel, by decide +kernel⟩
def zeroT : Tb := fun _ _ => 0
def plusT (T X : Tb) (m : Nat) : Tb := fun i j => X i j + (m : Int) * T i j
theorem more_eq {n : Nat} {T X : Tb} : moreSums n T X = (List.range (n + 1)).map (plusT T X) := rfl
theorem tabs_in {n i : Nat} {S : List Tb} (h : i < (S.map (tabD n)).length) : (S.map (tabD n))[i]? = some (tabD n (tbl S i)) := tab_at (by rwa [List.length_map] at h)
theorem take_tbl {S : List Tb} {i : Nat} (h : i < S.length) : S.take (i + 1) = S.take i ++ [tbl S i] := by
  rw [List.take_succ, List.getElem?_eq_getElem h]
  unfold tbl
  rw [List.getD_eq_getElem?_getD, List.getElem?_eq_getElem h]
  rfl
structure SrA where
  n : Nat
  F : List Tb
structure IcA where
  n : Nat
  Ts : List Tb
  Os : List Tb
  X : Tb
section
variable {P : Program} {w : World} {K : PySem.W.Frag} {mg : Str → Option Value} {base : Heap} (bi : Bi mg)
abbrev spLSomeReg (K : PySem.W.Frag) : Sp := spD K (fun a : SrA => [tabsD true a.n a.F, .int (a.n : Int)]) (fun a => 1 ≤ a.n ∧ a.n ≤ 3 ∧ a.F.length ≤ 3 ∧ (∀ t, t < a.F.length → Cells a.n (fun x => x.natAbs < 2 ^ 410) (tbl a.F t)) ∧ ∀ X ∈ sumsL a.n a.F, (reducedL a.n (rowsOf a.n X)).length ≠ a.n) fun _ => .bool false
include bi in
theorem ok_law_some_regular {f : Addr} {fd : FuncData} (F : L2.Fun K "_law_some_regular" "_law_some_regular" st_law_some_regular f fd) (c_law_rank : Wk.Cal P w K mg base 4 "_law_rank" (spLRank K)) : FnOk P w K mg base CX0 5 f fd ["_law_some", "_law_size"] (spLSomeReg K) := by
  refine okD F sc_law_some_regular (fun _ => rfl) (by decide) fun ⟨n, Fs⟩ cdv A outer s H σ Q E B hr ⟨h1, h3, hF, hb, hreg⟩ eb e k => ⟨_, (pss_cons (ps_set (i := 2) sc_law_some_regular.nd rfl (by first | exact Or.inl rfl | exact Or.inr rfl) (pe_lst (pa_cons (pe_callTy (r := rTupOf K) call_tuple_of (by rfl) bi.tuple (by decide +kernel) (pa_cons (pe_lc (own := [("_law_k", 8)]) (wi := _) (g := gName 8) (by rfl) sc_law_some_regular.nd (pi_range1 (by rfl) bi.range (pa_cons (pv 1) pa_nil)) (blkOk_by (N := N_law_some_regular) (sc := (defScope st_law_some_regular)) (by decide +kernel)) (fun _ _ _ _ _ => (pg_name (i := 8) sc_law_some_regular.nd rfl (by first | exact Or.inl rfl | exact Or.inr rfl))) (fun _ _ _ _ _ => pts_nil) (fun _ _ _ _ _ => (pe_op (r := rRepB K) op_repB (pe_tup (pa_cons pe_int pa_nil)) (pv 1)))) pa_nil)) pa_nil)))
      (pss_cons (ps_for PassesOwn.never (by rfl) (pi_sq (pv 0)) (pg_name (i := 3) sc_law_some_regular.nd rfl (by first | exact Or.inl rfl | exact Or.inr rfl)) (pss_cons (ps_set (i := 4) sc_law_some_regular.nd rfl (by first | exact Or.inl rfl | exact Or.inr rfl) (pe_lst pa_nil))
      (pss_cons (ps_for PassesOwn.never (by rfl) (pi_sq (pv 2)) (pg_name (i := 5) sc_law_some_regular.nd rfl (by first | exact Or.inl rfl | exact Or.inr rfl)) (pss_one (ps_for PassesOwn.never (by rfl) (pi_range1 (by rfl) bi.range (pa_cons (pe_op op_add (pv 1) pe_int) pa_nil)) (pg_name (i := 6) sc_law_some_regular.nd rfl (by first | exact Or.inl rfl | exact Or.inr rfl)) (pss_cons (ps_setLc (own := [("_law_k", 8)]) (wi := _) (g := gName 8) (i := 7) rfl sc_law_some_regular.nd rfl rfl rfl (pi_range1 (by rfl) bi.range (pa_cons (pv 1) pa_nil)) (blkOk_by (N := N_law_some_regular) (sc := (defScope st_law_some_regular)) (by decide +kernel)) (fun _ _ _ _ _ => (pg_name (i := 8) sc_law_some_regular.nd rfl (by first | exact Or.inl rfl | exact Or.inr rfl))) (fun _ _ _ _ _ => pts_nil) (fun _ _ _ _ _ => (pe_callTy (r := rTupOf K) call_tuple_of (by rfl) bi.tuple (by decide +kernel) (pa_cons (pe_lc (own := [("_law_j", 9)]) (wi := _) (g := gName 9) (by rfl) sc_law_some_regular.nd (pi_range1 (by rfl) bi.range (pa_cons (pv 1) pa_nil)) (blkOk_by (N := N_law_some_regular) (sc := (relS _ (defScope st_law_some_regular))) (by decide +kernel)) (fun _ _ _ _ _ => (pg_name (i := 9) sc_law_some_regular.nd rfl (by first | exact Or.inl rfl | exact Or.inr rfl))) (fun _ _ _ _ _ => pts_nil) (fun _ _ _ _ _ => (pe_op op_add (pe_ix (r := rIx K) ix_seq (pe_ix (r := rIx K) ix_seq (pv 5) (pv 8) (fun _ _ => rfl)) (pv 9) (fun _ _ => rfl)) (pe_op op_mulW (pv 6) (pe_ix (r := rIx K) ix_seq (pe_ix (r := rIx K) ix_seq (pv 3) (pv 8) (fun _ _ => rfl)) (pv 9) (fun _ _ => rfl)))))) pa_nil))))
      (pss_one (ps_expr (pe_bm PySem.F.plainAttrs_list PySem.F.slot_list_append PySem.F.type_list_append mt_append (pv 4) (pa_cons (pe_callTy (r := rTupOf K) call_tuple_of (by rfl) bi.tuple (by decide +kernel) (pa_cons (pv 7) pa_nil)) pa_nil))))))))
      (pss_one (ps_set (i := 2) sc_law_some_regular.nd rfl (by first | exact Or.inl rfl | exact Or.inr rfl) (pv 4))))))
      (pss_one (ps_ret (pe_cmpR (r := rNeD K) (op_neD hr.units) (pe_lc (own := [("_law_found", 5)]) (wi := iSq K _) (g := gName 5) (by rfl) sc_law_some_regular.nd (pi_sq (pv 2)) (blkOk_by (N := N_law_some_regular) (sc := (defScope st_law_some_regular)) (by decide +kernel)) (fun _ _ _ _ _ => (pg_name (i := 5) sc_law_some_regular.nd rfl (by first | exact Or.inl rfl | exact Or.inr rfl))) (fun _ _ _ _ _ => pts_one (pt_cmpR (r := rEqD K) (op_eqD hr.units) (pe_cal c_law_rank hr (by decide) (by rfl) (pa_cons (pv 5) pa_nil)) (pv 1) (nomark _))) (fun _ _ _ _ _ => (pv 5))) (pe_lst pa_nil) (nomark _)))))), ?_⟩
  dsimp only at e h1 h3 hF hb hreg k
  have lenS : ∀ m, m ≤ Fs.length → (sumsL n (Fs.take m)).length ≤ 64 := fun m hm => by
    rw [sumsL_len m hm]
    have a1 : (n + 1) ^ m ≤ 4 ^ m := Nat.pow_le_pow_left (by omega) m
    have a2 : (4 : Nat) ^ m ≤ 4 ^ 3 := Nat.pow_le_pow_right (by decide) (by omega)
    omega
  refine s_asg (t := .dat (tabsD true n (sumsL n (Fs.take 0)))) ((en_lst (ea_cons ((ev_cb (ea_cons (en_lc (p := fun _ => true) (f := fun i => rowD false n (zeroT i)) (w_rng1 (ea_cons (ev_var rfl) ea_nil) ⟨by omega, by omega⟩) (by omega) (by decide) (fun _ _ => et_yes) (fun i hi _ => ?_)).dat ea_nil) (cv_tuple (k := true))).cast (b := tabD n zeroT) (by rw [picked_all]; rfl)) ea_nil) (by simp)).dat.cast (by rw [List.take_zero]; rfl)) e eb fun σ1 H1 B1 x1 e1 => ?_
  · refine (ev_repT (ev_tup (ea_cons ev_int ea_nil) (by simp)) (ev_var rfl) ⟨by omega, by omega⟩ (by simp) (by simp)).cast ?_
    show PyData.tuple _ = PyData.tuple (vec n fun _ => 0)
    rw [← rep_zero]
    rfl
  let G0 : Nat → Gam := fun m => [.dat (tabsD true n Fs), .dat (.int (n : Int)), .dat (tabsD true n (sumsL n (Fs.take m))), .no, .no, .no, .no, .no, .no, .no]
  refine s_for (n := (Fs.map (tabD n)).length) (B0 := B) (H0 := H) (Gi := G0) (Φ := fun _ _ _ _ => True) (w_sq (k := true) (item := fun i => tabD n (tbl Fs i)) (ev_var rfl) fun i hi => tabs_in hi) e1 x1 (fun B2 H2 x2 => ⟨⟨rfl, rfl, rfl, trivial, trivial, trivial, trivial, trivial, trivial, trivial, trivial⟩, trivial⟩) (fun B2 m σ3 B3 H3 H4 hm X3 b3 _ x4 e3 => ?_) (fun B2 σ3 B3 H3 e3 X3 _ => ?_)
  · have hm : m < Fs.length := by rwa [List.length_map] at hm
    refine s_asgN (en_lst ea_nil (by simp)) e3 x4.le fun p xs σ5 H5 B5 hp x5 h5 b5 r5 e5 => ?_
    have X5 := (X3.trans x4).trans x5
    have np : H p = none := Evl.fresh_back (X3.trans x4).ex hp
    let S := sumsL n (Fs.take m)
    have ls : S.length ≤ 64 := lenS m (by omega)
    let T := tbl Fs m
    let acc : Nat → List Tb := fun i => (S.take i).flatMap (moreSums n T)
    have la : ∀ i, i ≤ S.length → (acc i).length ≤ i * 4 := fun i hi => by
      have := sumStep_len (n := n) (T := T) (S := S.take i)
      have e2 : (acc i).length = (S.take i).length * (n + 1) := this
      rw [e2, List.length_take]
      exact Nat.mul_le_mul (Nat.min_le_left _ _) (by omega)
    let G1 : Ent → Ent → Ent → Gam := fun a b c => [.dat (tabsD true n Fs), .dat (.int (n : Int)), .dat (tabsD true n S), .dat (tabD n T), .val (.ref p), a, b, .no, .no, .no]
    refine s_for (n := (S.map (tabD n)).length) (B0 := B) (H0 := H) (Gi := fun _ => G1 .no .no .no) (Φ := fun _ i B' H' => Evl.Ex B2 B' ∧ Own K p ((acc i).map (tabD n)) B' H') (w_sq (k := true) (item := fun i => tabD n (tbl S i)) (ev_var rfl) fun i hi => tabs_in hi) e5 X5 (fun B6 H6 x6 => ⟨⟨rfl, rfl, rfl, rfl, rfl, trivial, trivial, trivial, trivial, trivial, trivial⟩, b3.trans (x4.bb.trans (x5.bb.trans x6.bb)), (Own.to h5 b5 r5).ext x6⟩) (fun B6 i σ7 B7 H7 H8 hi X7 b7 ⟨c7, o7⟩ x8 e7 => ?_) (fun B6 σ7 B7 H7 e7 X7 ⟨c7, o7⟩ => ?_)
    · have hi : i < S.length := by rwa [List.length_map] at hi
      let acc2 : Nat → List Tb := fun b => acc i ++ (List.range b).map (plusT T (tbl S i))
      refine s_for (n := (((n : Int) + 1) : Int).toNat) (B0 := B) (H0 := H) (Gi := fun _ => G1 (.dat (tabD n (tbl S i))) .no .no) (Φ := fun _ b B' H' => Evl.Ex B2 B' ∧ Evl.Ex B6 B' ∧ Own K p ((acc2 b).map (tabD n)) B' H') (w_rng1 (ea_cons (ev_add (ev_var rfl) ev_int) ea_nil) ⟨by omega, by omega⟩) e7 (X7.trans x8) (fun B9 H9 x9 => ⟨⟨rfl, rfl, rfl, rfl, rfl, rfl, trivial, trivial, trivial, trivial, trivial⟩, c7.trans (x8.bb.trans x9.bb), b7.trans (x8.bb.trans x9.bb), ?_⟩) (fun B9 b σ10 B10 H10 H11 hb' X10 b10 ⟨c10, d10, o10⟩ x11 e10 => ?_) (fun B9 σ10 B10 H10 e10 X10 ⟨c10, d10, o10⟩ => ?_)
      · have er : acc2 0 = acc i := by show acc i ++ [] = acc i; rw [List.append_nil]
        rw [er]
        exact (o7.ext x8).ext x9
      · have hb' : b < n + 1 := by omega
        have X11 := X10.trans x11
        refine s_asg (t := .dat (.list ((List.range n).map fun r => rowD false n (plusT T (tbl S i) b r)))) ((en_lc (p := fun _ => true) (f := fun r => rowD false n (plusT T (tbl S i) b r)) (w_rng1 (ea_cons (ev_var rfl) ea_nil) ⟨by omega, by omega⟩) (by omega) (by decide) (fun _ _ => et_yes) (fun r hr' _ => ?_)).dat.cast (by rw [picked_all]; rfl)) e10 x11.le fun σ12 H12 B12 x12 e12 => ?_
        · have hr' : r < n := by omega
          refine (ev_cb (ea_cons (en_lc (p := fun _ => true) (f := fun j => .int (plusT T (tbl S i) b r j)) (w_rng1 (ea_cons (ev_var rfl) ea_nil) ⟨by omega, by omega⟩) (by omega) (by decide) (fun _ _ => et_yes) (fun j hj _ => ?_)).dat ea_nil) (cv_tuple (k := true))).cast (by rw [picked_all]; rfl)
          have hj : j < n := by omega
          exact ev_add (ev_cell (ev_var rfl) (ev_var rfl) (ev_var rfl) rfl rfl hr' hj) (ev_mul (ev_var rfl) (ev_cell (ev_var rfl) (ev_var rfl) (ev_var rfl) rfl rfl hr' hj) (mul9 (Nat.lt_of_lt_of_le (show ((b : Int)).natAbs < 2 ^ 10 by omega) (Nat.pow_le_pow_right (by decide) (by omega))) (Nat.lt_of_lt_of_le (hb m hm r j hr' hj) (Nat.pow_le_pow_right (by decide) (by omega)))))
        · refine ((o10.ext x11).ext x12).app (i := 4) (d := tabD n (plusT T (tbl S i) b)) rfl (ev_cb (ea_cons (ev_var rfl) ea_nil) (cv_tuple (k := true))) e12 (X11.trans x12) np (by
            have := la i (by omega)
            show ((acc i ++ (List.range b).map (plusT T (tbl S i))).map (tabD n)).length < _
            rw [List.length_map, List.length_append, List.length_map, List.length_range]
            omega) fun H13 B13 X13 kp o13 e13 => ?_
          refine ⟨B13, e13.le ?_, X13, b10.trans ((x11.bb.trans x12.bb).trans kp.bb), c10.trans ((x11.bb.trans x12.bb).trans kp.bb), d10.trans ((x11.bb.trans x12.bb).trans kp.bb), ?_⟩
          · exact ⟨rfl, rfl, rfl, rfl, rfl, rfl, trivial, trivial, trivial, trivial, trivial⟩
          · have ef : (acc2 (b + 1)).map (tabD n) = (acc2 b).map (tabD n) ++ [tabD n (plusT T (tbl S i) b)] := by
              show (acc i ++ (List.range (b + 1)).map (plusT T (tbl S i))).map (tabD n) = (acc i ++ (List.range b).map (plusT T (tbl S i))).map (tabD n) ++ _
              rw [List.range_succ, List.map_append, List.map_append, List.map_append, List.map_append, List.append_assoc]
              rfl
            rw [ef]
            exact o13
      · dsimp only at e10 ⊢
        refine ⟨B10, e10.le ?_, X10, d10, c10, ?_⟩
        · exact ⟨rfl, rfl, rfl, rfl, rfl, trivial, trivial, trivial, trivial, trivial, trivial⟩
        · have ef : acc (i + 1) = acc2 (((n : Int) + 1) : Int).toNat := by
            show (S.take (i + 1)).flatMap (moreSums n T) = (S.take i).flatMap (moreSums n T) ++ _
            rw [take_tbl hi, List.flatMap_append]
            congr 1
            show (moreSums n T (tbl S i)) ++ [] = _
            rw [List.append_nil, more_eq]
            rfl
          rw [ef]
          exact o10
    · dsimp only at e7 ⊢
      rw [List.length_map] at o7
      obtain ⟨B8, e8, X8, b8, kp⟩ := o7.show_ e7 X7 np (i := 4) rfl
      refine s_asg (ev_var rfl) e8 X8.le fun σ9 H9 B9 x9 e9 => ?_
      refine ⟨B9, e9.le ?_, X8.trans x9, (c7.trans b8).trans x9.bb, trivial⟩
      have ef : sumsL n (Fs.take (m + 1)) = acc S.length := by
        rw [sumsL_take hm]
        show _ = (S.take S.length).flatMap _
        rw [List.take_length]
        rfl
      refine ⟨rfl, rfl, ?_, trivial, trivial, trivial, trivial, trivial, trivial, trivial, trivial⟩
      rw [ef]
      rfl
  · dsimp only at e3 ⊢
    rw [List.length_map] at e3
    have hS : sumsL n (Fs.take Fs.length) = sumsL n Fs := by rw [List.take_length]
    have ls := lenS Fs.length (Nat.le_refl _)
    rw [hS] at ls
    refine s_ret ((ev_ne (en_lc (n := ((sumsL n (Fs.take Fs.length)).map (tabD n)).length) (p := fun _ => false) (f := fun _ => .none) (w_sq (k := true) (item := fun i => tabD n (tbl (sumsL n (Fs.take Fs.length)) i)) (ev_var rfl) fun i hi => tabs_in hi) (by rw [List.length_map, hS]; omega) (by decide) (fun i hi => ?_) (fun i hi h => by cases h)).dat (en_lst ea_nil (by simp)).dat (by unfold picked; rw [List.filter_eq_nil_iff.mpr (fun _ _ => by decide)]; exact sh_nil.shaped (by decide)) (sh_nil.shaped (by decide))).cast ?_) e3 X3.le fun u H5 B5 x5 r5 => k u H5 B5 (X3.trans x5) r5
    · rw [List.length_map, hS] at hi
      have hX : tbl (sumsL n Fs) i ∈ sumsL n Fs := tbl_mem hi
      have hbits := sumsL_bits (by omega) h3 hb _ hX
      refine (et_test (ev_eqI (ev_call (ea_cons (ev_var rfl) ea_nil) (spD_v ((n, tbl (sumsL n (Fs.take Fs.length)) i) : Nat × Tb) ⟨h3, ?_⟩)) (ev_var rfl))).cast ?_
      · dsimp only
        rw [hS]
        have := hreg _ hX
        have ne : ((reducedL n (rowsOf n (tbl (sumsL n Fs) i))).length : Int) ≠ (n : Int) := by omega
        exact beq_eq_false_iff_ne.mpr ne
      · dsimp only
        rw [hS]
        exact (small_fine h3 (rows_bits hbits)).2
    · unfold picked
      rw [List.filter_eq_nil_iff.mpr (fun _ _ => by decide)]
      rfl
end
end At
-- V29
namespace At
open PySem PySem.Spec PyProof.Rows L2 Wk La
theorem picked_none {n : Nat} {f : Nat → D} : picked n (fun _ => false) f = [] := by
  unfold picked
  rw [List.filter_eq_nil_iff.mpr (fun _ _ => by decide)]
  rfl
theorem tabD_congr {n : Nat} {A B : Tb} (h : EqT n A B) : tabD n A = tabD n B := by
  unfold tabD
  congr 1
  refine List.map_congr_left fun i hi => ?_
  unfold rowD
  rw [vec_congr fun j hj => h i j (List.mem_range.mp hi) hj]
theorem sh_tab {n : Nat} {T : Tb} : Sh 2 (tabD n T) := sh_sq (k := false) fun d hd => by
  obtain ⟨i, _, rfl⟩ := List.mem_map.mp hd
  exact sh_row
theorem chg_at {n k : Nat} {Ts Os : List Tb} {X : Tb} (h : Chg n Ts Os X) (h1 : k < Ts.length) (h2 : k < Os.length) : EqT n (mulT n X (tbl Ts k)) (mulT n (tbl Os k) X) := by
  refine h (tbl Ts k, tbl Os k) ?_
  unfold tbl
  rw [List.getD_eq_getElem?_getD, List.getD_eq_getElem?_getD, List.getElem?_eq_getElem h1, List.getElem?_eq_getElem h2]
  have hz : k < (Ts.zip Os).length := by rw [List.length_zip]; omega
  have := List.getElem_mem hz
  rwa [List.getElem_zip] at this
theorem sml_bt {n : Nat} {Ts : List Tb} {k : Nat} (h : Sml n Ts) (hk : k < Ts.length) : BT n 9000 (tbl Ts k) := fun i j hi hj => Nat.lt_of_lt_of_le (show (tbl Ts k i j).natAbs < 2 ^ 13 by have := h _ (tbl_mem hk) i j hi hj; omega) (Nat.pow_le_pow_right (by decide) (by omega))
section
variable {P : Program} {w : World} {K : PySem.W.Frag} {mg : Str → Option Value} {base : Heap} (bi : Bi mg)
structure IcOk (a : IcA) : Prop where
  n : 1 ≤ a.n ∧ a.n ≤ 3
  t : 0 < a.Ts.length ∧ a.Ts.length ≤ 3
  l : a.Ts.length = a.Os.length
  chg : Chg a.n a.Ts a.Os a.X
  rank : (reducedL a.n (rowsOf a.n a.X)).length = a.n
  bits : Cells a.n (fun x => x.natAbs < 2 ^ 430) a.X
  ts : Sml a.n a.Ts
  os : Sml a.n a.Os
abbrev spLIsChange (K : PySem.W.Frag) : Sp := spD K (fun a : IcA => [tabsD false a.n a.Ts, tabsD false a.n a.Os, tabD a.n a.X]) IcOk fun _ => .bool true
include bi in
theorem ok_law_is_change {f : Addr} {fd : FuncData} (F : L2.Fun K "_law_is_change" "_law_is_change" st_law_is_change f fd) (c_law_rank : Wk.Cal P w K mg base 4 "_law_rank" (spLRank K)) (c_law_times : Wk.Cal P w K mg base 1 "_law_times" (spLTimes K)) : FnOk P w K mg base CX0 5 f fd ["_law_tables_here", "_law_others", "_law_thing"] (spLIsChange K) := by
  refine okD F sc_law_is_change (fun _ => rfl) (by decide) fun ⟨n, Ts, Os, X⟩ cdv A outer s H σ Q E B hr ok eb e k => ⟨_, (pss_cons (ps_set (i := 3) sc_law_is_change.nd rfl (by first | exact Or.inl rfl | exact Or.inr rfl) (pe_callB (r := rLenSq K) call_len_seq (by rfl) bi.len (by decide +kernel) (pa_cons (pe_ix (r := rIx K) ix_seq (pv 0) pe_int (fun _ _ => rfl)) pa_nil)))
      (pss_cons (ps_if ((pw_or (pt_not (pt_val (pe_callB (r := rIsi K) call_isi (by rfl) bi.isinstance (by decide +kernel) (pa_cons (pv 2) (pa_cons (pe_bltn (v := .ty "tuple") (u := .type "tuple") (by rfl) bi.tuple (by decide +kernel) rfl) pa_nil))))) (pw_or (pt_cmpR (r := rNeD K) (op_neD hr.units) (pe_callB (r := rLenSq K) call_len_seq (by rfl) bi.len (by decide +kernel) (pa_cons (pv 2) pa_nil)) (pv 3) (nomark _)) (pw_or1 (pt_cmpR (r := rNeD K) (op_neD hr.units) (pe_lc (own := [("_law_line", 5)]) (wi := iSq K _) (g := gName 5) (by rfl) sc_law_is_change.nd (pi_sq (pv 2)) (blkOk_by (N := N_law_is_change) (sc := (defScope st_law_is_change)) (by decide +kernel)) (fun _ _ _ _ _ => (pg_name (i := 5) sc_law_is_change.nd rfl (by first | exact Or.inl rfl | exact Or.inr rfl))) (fun _ _ _ _ _ => pts_one (pt_not (pt_val (pe_callB (r := rIsi K) call_isi (by rfl) bi.isinstance (by decide +kernel) (pa_cons (pv 5) (pa_cons (pe_bltn (v := .ty "tuple") (u := .type "tuple") (by rfl) bi.tuple (by decide +kernel) rfl) pa_nil)))))) (fun _ _ _ _ _ => (pv 5))) (pe_lst pa_nil) (nomark _)))))).pt (pss_one (ps_ret pe_bl)) pss_nil)
      (pss_cons (ps_if ((pw_or (pt_cmpR (r := rNeD K) (op_neD hr.units) (pe_lc (own := [("_law_line", 5)]) (wi := iSq K _) (g := gName 5) (by rfl) sc_law_is_change.nd (pi_sq (pv 2)) (blkOk_by (N := N_law_is_change) (sc := (defScope st_law_is_change)) (by decide +kernel)) (fun _ _ _ _ _ => (pg_name (i := 5) sc_law_is_change.nd rfl (by first | exact Or.inl rfl | exact Or.inr rfl))) (fun _ _ _ _ _ => pts_one (pt_cmpR (r := rNeD K) (op_neD hr.units) (pe_callB (r := rLenSq K) call_len_seq (by rfl) bi.len (by decide +kernel) (pa_cons (pv 5) pa_nil)) (pv 3) (nomark _))) (fun _ _ _ _ _ => (pv 5))) (pe_lst pa_nil) (nomark _)) (pw_or1 (pt_cmpR (r := rNeD K) (op_neD hr.units) (pe_cal c_law_rank hr (by decide) (by rfl) (pa_cons (pv 2) pa_nil)) (pv 3) (nomark _))))).pt (pss_one (ps_ret pe_bl)) pss_nil)
      (pss_one (ps_ret (pe_cmpR (r := rEqD K) (op_eqD hr.units) (pe_lc (own := [("_law_k", 4)]) (wi := _) (g := gName 4) (by rfl) sc_law_is_change.nd (pi_range1 (by rfl) bi.range (pa_cons (pe_callB (r := rLenSq K) call_len_seq (by rfl) bi.len (by decide +kernel) (pa_cons (pv 0) pa_nil)) pa_nil)) (blkOk_by (N := N_law_is_change) (sc := (defScope st_law_is_change)) (by decide +kernel)) (fun _ _ _ _ _ => (pg_name (i := 4) sc_law_is_change.nd rfl (by first | exact Or.inl rfl | exact Or.inr rfl))) (fun _ _ _ _ _ => pts_one (pt_cmpR (r := rNeD K) (op_neD hr.units) (pe_cal c_law_times hr (by decide) (by rfl) (pa_cons (pv 2) (pa_cons (pe_ix (r := rIx K) ix_seq (pv 0) (pv 4) (fun _ _ => rfl)) pa_nil))) (pe_cal c_law_times hr (by decide) (by rfl) (pa_cons (pe_ix (r := rIx K) ix_seq (pv 1) (pv 4) (fun _ _ => rfl)) (pa_cons (pv 2) pa_nil))) (nomark _))) (fun _ _ _ _ _ => (pv 4))) (pe_lst pa_nil) (nomark _))))))), ?_⟩
  obtain ⟨⟨h1, h3⟩, ⟨t0, t3⟩, hl, hc, hrk, hb, hT, hO⟩ := ok
  dsimp only at e h1 h3 t0 t3 hl hc hrk hb hT hO k
  have lx : ∀ {G : Gam} {te : TE}, ED K te G (tabD n X) → ED K (tCB (rLenSq K) (tCons te tNil)) G (.int (n : Int)) := fun h => (ev_cb (ea_cons h ea_nil) (cv_len (k := false))).cast (by rw [List.length_map, List.length_range])
  have xw : ∀ {G : Gam} {te : TE}, ED K te G (tabD n X) → EvW K (iSq K te) (gName 5) [5] G ((List.range n).map fun i => rowD false n (X i)).length (fun i G => G.set 5 (.dat (rowD false n (X i)))) := fun h => w_sq (k := false) (item := fun i => rowD false n (X i)) h fun i hi => range_in hi
  have xl : ((List.range n).map fun i => rowD false n (X i)).length ≤ 100000 := by rw [List.length_map, List.length_range]; omega
  refine s_asg (ev_size (ev_var rfl) t0) e eb fun σ1 H1 B1 x1 e1 => ?_
  refine s_if (et_or (et_not (et_B (ev_isiT (ev_var rfl)))) fun _ => et_or (et_test (ev_neI (lx (ev_var rfl)) (ev_var rfl))) fun _ => et_some (n := 1) ((en_lc (p := fun _ => false) (f := fun _ => .none) (xw (ev_var rfl)) xl (by decide) (fun i hi => et_not (et_B (ev_isiT (ev_var rfl)))) (fun i hi h => by cases h)).dat.cast (by rw [picked_none])) sh_nil (by decide)) e1 x1.le (fun hb' => by simp at hb') fun _ H2 B2 x2 e2 => ?_
  dsimp only [tNext]
  refine s_if (et_or (et_some (n := 1) ((en_lc (p := fun _ => false) (f := fun _ => .none) (xw (ev_var rfl)) xl (by decide) (fun i hi => (et_test (ev_neI ((ev_cb (ea_cons (ev_var rfl) ea_nil) (cv_len (k := false))).cast (b := .int (n : Int)) (by rw [vec_len])) (ev_var rfl))).cast (by simp)) (fun i hi h => by cases h)).dat.cast (by rw [picked_none])) sh_nil (by decide)) fun _ => et_test (ev_neI ((ev_call (ea_cons (ev_var rfl) ea_nil) (spD_v ((n, X) : Nat × Tb) ⟨h3, (small_fine h3 (rows_bits hb)).2⟩)).cast (b := .int (n : Int)) (by dsimp only; rw [hrk])) (ev_var rfl))) e2 (x1.trans x2).le (fun hb' => by simp at hb') fun _ H3 B3 x3 e3 => ?_
  dsimp only [tNext]
  have X3 := (x1.trans x2).trans x3
  have bx : BT n 9000 X := fun i j hi hj => Nat.lt_of_lt_of_le (hb i j hi hj) (Nat.pow_le_pow_right (by decide) (by omega))
  refine s_ret ((ev_eq ((en_lc (p := fun _ => false) (f := fun _ => .none) (w_rng1 (ea_cons (ev_cb (ea_cons (ev_var rfl) ea_nil) (cv_len (k := false) (ds := Ts.map (tabD n)))) ea_nil) ⟨by omega, by rw [List.length_map]; omega⟩) (by rw [List.length_map]; omega) (by decide) (fun i hi => ?_) (fun i hi h => by cases h)).dat.cast (b := .list []) (by rw [picked_none])) (en_lst ea_nil (by simp)).dat (sh_nil.shaped (by decide)) (sh_nil.shaped (by decide))).cast (by rw [eqv_nil]; rfl)) e3 X3.le fun u H5 B5 x5 r5 => k u H5 B5 (X3.trans x5) r5
  rw [List.length_map] at hi
  have hi : i < Ts.length := by omega
  refine (et_test (ev_ne (ev_call (ea_cons (ev_var rfl) (ea_cons (ev_ix (k := false) (ev_var rfl) (ev_var rfl) rfl (tab_at hi)) ea_nil)) (spD_v (⟨n, X, tbl Ts i⟩ : TmA) ⟨h1, h3, bx, sml_bt hT hi⟩)) (ev_call (ea_cons (ev_ix (k := false) (ev_var rfl) (ev_var rfl) rfl (tab_at (by omega))) (ea_cons (ev_var rfl) ea_nil)) (spD_v (⟨n, tbl Os i, X⟩ : TmA) ⟨h1, h3, sml_bt hO (by omega), bx⟩)) (sh_tab.shaped (by decide)) (sh_tab.shaped (by decide)))).cast ?_
  dsimp only
  rw [tabD_congr (chg_at hc hi (by omega)), PySem.SeqAt.eqv_refl _ sh_tab.1]
  rfl
end
end At
-- V30
namespace At
open PySem PySem.Spec PyProof.Rows L2 Wk La
abbrev st_law_shift : Stmt := topS 63
abbrev N_law_shift : List Str := ["_law_well_here", "_law_size", "_law_turn", "_law_view_here", "_law_back", "_law_i", "_law_j", "_law_by"]
theorem sc_law_shift : FnScope N_law_shift ["_law_well_here", "_law_size"] (defScope st_law_shift) := ⟨rfl, rfl, rfl, by decide +kernel, rfl, by decide +kernel, by decide +kernel⟩
theorem we_pick {K : PySem.W.Frag} {p : Addr} {G : Gam} {te tw : TE} {E : XK} {c : Nat} {S : List D → Prop} (h : Wk.Ev K tw G (.val (.ref p))) (hm : WE K p c te G fun t => ∃ ds, t = .dat (.list ds) ∧ S ds) (hS : ∀ ds, S ds → 1 ≤ ds.length ∧ ds.length < 1000) : WE K p (c + 1) (tCall (spLPick K) [] E (tCons tw (tCons te tNil))) G fun t => ∃ ds d, S ds ∧ d ∈ ds ∧ t = .dat d :=
  ((we_call (T := fun t => ∃ ds d, S ds ∧ d ∈ ds ∧ t = .dat d) (wa_cons h.we (wa_cons hm wa_nil)) (fun ts ⟨t, us, e1, e2, t2, us2, e3, ⟨ds, e4, hs⟩, e5⟩ => ⟨ds, by rw [e1, e2, e3, e4, e5], hS ds hs, fun t ⟨d, ht, hd⟩ => ⟨ds, d, hs, hd, ht⟩⟩))).up (by omega)
theorem step_cells {n i j : Nat} {b : Int} (h : b.natAbs ≤ 9) : CellsLe n 10 (stepT i j b) := fun k c _ _ => by
  show (stepT i j b k c).natAbs ≤ 10
  unfold stepT unitT
  split <;> split <;> omega
theorem le_bt {n t : Nat} {T : Tb} (h : CellsLe n t T) (ht : t < 2 ^ 100) : BT n 9000 T := fun i j hi hj => Nat.lt_of_lt_of_le (Nat.lt_of_le_of_lt (h i j hi hj) ht) (Nat.pow_le_pow_right (by decide) (by omega))
section
variable {P : Program} {w : World} {K : PySem.W.Frag} {mg : Str → Option Value} {base : Heap} (bi : Bi mg)
def ShR (n : Nat) (t : Ent) : Prop := ∃ a b, t = .dat (.tuple [a, b]) ∧ ∃ V W, a = tabD n V ∧ b = tabD n W ∧ Bk n 4 V W
abbrev spLShift (K : PySem.W.Frag) : Sp := spW K 7 (fun n : Nat => [.dat (.int (n : Int))]) (fun n => 1 ≤ n ∧ n ≤ 3) ShR
include bi in
theorem ok_law_shift {f : Addr} {fd : FuncData} (F : L2.Fun K "_law_shift" "_law_shift" st_law_shift f fd) (c_law_unit : Wk.Cal P w K mg base 1 "_law_unit" (spLUnit K)) (c_law_draw : Wk.Cal P w K mg base 1 "_law_draw" (spLDraw K)) (c_law_pick : Wk.Cal P w K mg base 2 "_law_pick" (spLPick K)) (c_law_times : Wk.Cal P w K mg base 1 "_law_times" (spLTimes K)) (c_law_step : Wk.Cal P w K mg base 1 "_law_step" (spLStep K)) : FnOk P w K mg base CX0 3 f fd ["_law_well_here", "_law_size"] (spLShift K) := by
  refine okW F sc_law_shift (fun _ => rfl) (by decide) fun n p M cdv A outer s H σ Q E B B0 H0 hr ⟨h1, h3⟩ X n0 wl hM e k => ⟨_, (pss_cons (ps_par (i := 3) (j := 4) (by rfl) sc_law_shift.nd rfl rfl (by decide) rfl rfl (pa_cons (pe_cal c_law_unit hr (by decide) (by rfl) (pa_cons (pv 1) pa_nil)) (pa_cons (pe_cal c_law_unit hr (by decide) (by rfl) (pa_cons (pv 1) pa_nil)) pa_nil)) (by rfl))
      (pss_cons (ps_for PassesOwn.never (by rfl) (pi_range1 (by rfl) bi.range (pa_cons (pe_cal c_law_draw hr (by decide) (by rfl) (pa_cons (pv 0) (pa_cons pe_int pa_nil))) pa_nil)) (pg_name (i := 2) sc_law_shift.nd rfl (by first | exact Or.inl rfl | exact Or.inr rfl)) (pss_cons (ps_par (i := 5) (j := 6) (by rfl) sc_law_shift.nd rfl rfl (by decide) rfl rfl (pa_cons (pe_cal c_law_draw hr (by decide) (by rfl) (pa_cons (pv 0) (pa_cons (pv 1) pa_nil))) (pa_cons (pe_cal c_law_draw hr (by decide) (by rfl) (pa_cons (pv 0) (pa_cons (pv 1) pa_nil))) pa_nil)) (by rfl))
      (pss_one (ps_if (pt_cmpR (r := rNeD K) (op_neD hr.units) (pv 5) (pv 6) (nomark _)) (pss_cons (ps_set (i := 7) sc_law_shift.nd rfl (by first | exact Or.inl rfl | exact Or.inr rfl) (pe_cal c_law_pick hr (by decide) (by rfl) (pa_cons (pv 0) (pa_cons (pe_lst (pa_cons pe_int (pa_cons (pe_un un_neg pe_int) (pa_cons pe_int pa_nil)))) pa_nil))))
      (pss_cons (ps_set (i := 3) sc_law_shift.nd rfl (by first | exact Or.inl rfl | exact Or.inr rfl) (pe_cal c_law_times hr (by decide) (by rfl) (pa_cons (pv 3) (pa_cons (pe_cal c_law_step hr (by decide) (by rfl) (pa_cons (pv 1) (pa_cons (pv 5) (pa_cons (pv 6) (pa_cons (pv 7) pa_nil))))) pa_nil))))
      (pss_one (ps_set (i := 4) sc_law_shift.nd rfl (by first | exact Or.inl rfl | exact Or.inr rfl) (pe_cal c_law_times hr (by decide) (by rfl) (pa_cons (pe_cal c_law_step hr (by decide) (by rfl) (pa_cons (pv 1) (pa_cons (pv 5) (pa_cons (pv 6) (pa_cons (pe_op op_sub pe_int (pv 7)) pa_nil))))) (pa_cons (pv 4) pa_nil))))))) pss_nil))))
      (pss_one (ps_ret (pe_tup (pa_cons (pv 3) (pa_cons (pv 4) pa_nil))))))), ?_⟩
  refine s_parE (t := .dat (tabD n unitT)) (u := .dat (tabD n unitT)) (ev_call (ea_cons (ev_var rfl) ea_nil) (spD_v n h3)) (ev_call (ea_cons (ev_var rfl) ea_nil) (spD_v n h3)) e X.le fun σ1 H1 B1 x1 e1 => ?_
  have X1 := X.trans x1
  refine sw_rng (c := 1) (R := fun x => 0 ≤ x ∧ x < 3) ((we_draw (m := 3) (ev_val rfl) (ev_int).we ⟨by omega, by omega⟩).up (by omega)) e1 X1 n0 (wl.ext x1) (by omega) fun x H2 B2 ⟨x0, x3⟩ X2 kp2 w2 => ?_
  obtain ⟨m, rfl⟩ := Int.eq_ofNat_of_zero_le x0
  have hm : m < 3 := by omega
  let G0 : Ent → Ent → Gam := fun a b => [.val (.ref p), .dat (.int (n : Int)), .no, a, b, .no, .no, .no]
  have dr : ∀ {G : Gam}, G[0]? = some (.val (.ref p)) → G[1]? = some (.dat (.int (n : Int))) → WE K p 1 (tCall (spLDraw K) [] E0 (tCons (tVar 0) (tCons (tVar 1) tNil))) G fun t => ∃ x : Int, t = .dat (.int x) ∧ 0 ≤ x ∧ x < n := fun g0 g1 => (we_draw (m := n) (ev_val g0) (ev_var g1).we ⟨h1, by omega⟩).up (by omega)
  refine s_forS (n := (m : Int).toNat) (B0 := B0) (H0 := H0) (Gi := fun _ => G0 .no .no) (Φ := fun _ i σ' B' H' => Well K p (M + 1 + i * 3) B' H' ∧ ∃ V W, EntOk K B' σ'[3]? (.dat (tabD n V)) ∧ EntOk K B' σ'[4]? (.dat (tabD n W)) ∧ Bk n (2 ^ i) V W) (w_rng1 (ea_cons ev_int ea_nil) ⟨by omega, by omega⟩) (e1.mono kp2.bb) X2 (fun B3 H3 x3 => ⟨⟨rfl, rfl, trivial, trivial, trivial, trivial, trivial, trivial, trivial⟩, (w2.ext x3).mono (by omega), unitT, unitT, env_ent ((e1.mono kp2.bb).mono x3.bb) rfl, env_ent ((e1.mono kp2.bb).mono x3.bb) rfl, by rw [Nat.pow_zero]; exact bk_unit⟩) (fun B3 i σ4 σ5 B5 H5 H6 hi X5 b5 ⟨w5, V, W, a3, a4, bk⟩ x6 ks e5 => ?_) (fun B3 σ5 B5 H5 e5 X5 b5 ⟨w5, V, W, a3, a4, bk⟩ => ?_)
  · have hi : i < m := by omega
    have X6 := X5.trans x6
    have w6 := w5.ext x6
    have b3 : EntOk K B5 σ5[3]? (.dat (tabD n V)) := by rw [ks 3 (by decide)]; exact a3
    have b4 : EntOk K B5 σ5[4]? (.dat (tabD n W)) := by rw [ks 4 (by decide)]; exact a4
    have e6 : Wk.Env K B5 σ5 [.val (.ref p), .dat (.int (n : Int)), .dat (.int (i : Int)), .dat (tabD n V), .dat (tabD n W), .no, .no, .no] := (e5.put b3).put b4
    refine sw_par (dr rfl rfl) (dr rfl rfl) e6 X6 n0 w6 (by omega) fun t u σ7 H7 B7 ⟨x, et, hx0, hx⟩ ⟨y, eu, hy0, hy⟩ X7 kp7 w7 e7 => ?_
    subst et eu
    obtain ⟨a, rfl⟩ := Int.eq_ofNat_of_zero_le hx0
    obtain ⟨b, rfl⟩ := Int.eq_ofNat_of_zero_le hy0
    have ha : a < n := by omega
    have hb : b < n := by omega
    have b57 := (b5.trans x6.bb).trans kp7.bb
    have p2 : 2 ^ i ≤ 2 := Nat.pow_le_pow_right (n := 2) (by decide) (show i ≤ 1 by omega)
    refine s_if (et_test (ev_neI (ev_var rfl) (ev_var rfl))) e7 X7.le (fun hne H8 B8 x8 e8 => ?_) fun _ H8 B8 x8 e8 => ?_
    · have ne : a ≠ b := by
        rintro rfl
        simp at hne
      have X8 := X7.trans x8
      refine sw_asg (c := 1) (R := fun t => ∃ z : Int, t = .dat (.int z) ∧ z.natAbs ≤ 1) (((we_pick (c := 0) (S := fun ds => ds = [.int 1, .int (-1), .int 1]) (ev_val rfl) ((en_lst (ea_cons ev_int (ea_cons (ev_neg ev_int) (ea_cons ev_int ea_nil))) (by simp)).dat.we.imp fun t et => ⟨_, et, rfl⟩) (fun ds hd => by rw [hd]; exact ⟨by decide, by decide⟩)).up (by omega)).imp fun t ⟨ds, d, hs, hd, et⟩ => ?_) e8 X8 n0 (w7.ext x8) (by omega) fun t σ9 H9 B9 ⟨z, et, hz⟩ X9 kp9 w9 e9 => ?_
      · subst hs
        simp only [List.mem_cons, List.not_mem_nil, or_false] at hd
        rcases hd with rfl | rfl | rfl
        · exact ⟨1, et, by decide⟩
        · exact ⟨-1, et, by decide⟩
        · exact ⟨1, et, by decide⟩
      · subst et
        have hz2 : (0 - z).natAbs ≤ 1 := by omega
        refine s_asg (t := .dat (tabD n (mulT n V (stepT a b z)))) (ev_call (ea_cons (ev_var rfl) (ea_cons (ev_call (ea_cons (ev_var rfl) (ea_cons (ev_var rfl) (ea_cons (ev_var rfl) (ea_cons (ev_var rfl) ea_nil)))) (spD_v (⟨n, a, b, z⟩ : StA) ⟨h1, h3, by dsimp only; omega⟩)) ea_nil)) (spD_v (⟨n, V, stepT a b z⟩ : TmA) ⟨h1, h3, le_bt bk.own.1 (by omega), le_bt (step_cells (by omega)) (by omega)⟩)) e9 X9.le fun σ10 H10 B10 x10 e10 => ?_
        refine s_asg (t := .dat (tabD n (mulT n (stepT a b (0 - z)) W))) (ev_call (ea_cons (ev_call (ea_cons (ev_var rfl) (ea_cons (ev_var rfl) (ea_cons (ev_var rfl) (ea_cons (ev_sub ev_int (ev_var rfl)) ea_nil)))) (spD_v (⟨n, a, b, 0 - z⟩ : StA) ⟨h1, h3, by dsimp only; omega⟩)) (ea_cons (ev_var rfl) ea_nil)) (spD_v (⟨n, stepT a b (0 - z), W⟩ : TmA) ⟨h1, h3, le_bt (step_cells (by omega)) (by omega), le_bt bk.own.2 (by omega)⟩)) e10 (X9.trans x10).le fun σ11 H11 B11 x11 e11 => ?_
        refine ⟨B11, e11.le ?_, (X9.trans x10).trans x11, ((b57.trans x8.bb).trans kp9.bb).trans (x10.bb.trans x11.bb), ((w9.ext x10).ext x11).mono (by omega), _, _, env_ent e11 rfl, env_ent e11 rfl, ?_⟩
        · exact ⟨rfl, rfl, trivial, trivial, trivial, trivial, trivial, trivial, trivial⟩
        · have := bk.step ha hb ne hz
          rw [Nat.pow_succ, Nat.mul_comm]
          exact this
    · dsimp only [tNext]
      refine ⟨B8, e8.le ?_, X7.trans x8, b57.trans x8.bb, (w7.ext x8).mono (by omega), V, W, env_ent e8 rfl, env_ent e8 rfl, bk.mono ?_⟩
      · exact ⟨rfl, rfl, trivial, trivial, trivial, trivial, trivial, trivial, trivial⟩
      · exact Nat.pow_le_pow_right (by decide) (by omega)
  · dsimp only at e5 ⊢
    have e6 : Wk.Env K B5 σ5 [.val (.ref p), .dat (.int (n : Int)), .no, .dat (tabD n V), .dat (tabD n W), .no, .no, .no] := (e5.put a3).put a4
    refine s_ret (ev_tup (ea_cons (ev_var rfl) (ea_cons (ev_var rfl) ea_nil)) (by simp)) e6 X5.le fun u H7 B7 x7 r7 => k u _ H7 B7 ⟨_, _, rfl, V, W, rfl, rfl, bk.mono ?_⟩ (X5.trans x7) ((w5.ext x7).mono (by omega)) (ok_dat r7)
    exact Nat.pow_le_pow_right (n := 2) (by decide) (show (m : Int).toNat ≤ 2 by omega)
end
end At
-- V31
namespace At
open PySem PySem.Spec PyProof.Rows L2 Wk La
abbrev st_law_tables : Stmt := topS 64
abbrev N_law_tables : List Str := ["_law_well_here", "_law_most", "_law_kinds", "_law_tables_here", "_law_fits", "_law_size", "_law_many", "_law_way", "_law_one_here", "_law_view_here", "_law_back", "_law_k", "_law_table_here", "_law_part"]
theorem sc_law_tables : FnScope N_law_tables ["_law_well_here", "_law_most"] (defScope st_law_tables) := ⟨rfl, rfl, rfl, by decide +kernel, rfl, by decide +kernel, by decide +kernel⟩
theorem tabs_of {n : Nat} {R : Tb → Prop} : ∀ {ds : List D}, (∀ (i : Nat) d, ds[i]? = some d → ∃ T, d = tabD n T ∧ R T) → ∃ Ts : List Tb, ds = Ts.map (tabD n) ∧ ∀ T ∈ Ts, R T
  | [], _ => ⟨[], rfl, fun _ h => nomatch h⟩
  | d :: ds, h => by
    obtain ⟨T, e, r⟩ := h 0 d rfl
    obtain ⟨Ts, e2, r2⟩ := tabs_of (ds := ds) fun i d' hd => h (i + 1) d' hd
    refine ⟨T :: Ts, by rw [e, e2]; rfl, fun T' hT => ?_⟩
    rcases List.mem_cons.mp hT with rfl | hT
    · exact r
    · exact r2 T' hT
structure TsOk (n : Nat) (Ts : List Tb) (b : Nat) : Prop where
  sz : 1 ≤ n ∧ n ≤ 3
  ln : 0 < Ts.length ∧ Ts.length ≤ 3
  c : ∀ T ∈ Ts, CellsLe n b T
theorem TsOk.moved {n t : Nat} {Ts : List Tb} {V W : Tb} (h : TsOk n Ts t) (bk : Bk n 4 V W) : TsOk n (Ts.map fun T => mulT n V (mulT n T W)) (t * 16) := ⟨h.sz, by rw [List.length_map]; exact h.ln, fun T hT => by
  obtain ⟨T', hT', rfl⟩ := List.mem_map.mp hT
  exact bk.moved (h.c T' hT')⟩
theorem cutD_take {ds : List D} {m : Nat} : Wk.cutD ds none (some (m : Int)) = ds.take m := by
  unfold Wk.cutD
  rw [HT.sIx_nat]
  show List.take (min m ds.length - 0) (List.drop 0 ds) = _
  rw [List.drop_zero, Nat.sub_zero]
  by_cases h : m ≤ ds.length
  · rw [Nat.min_eq_left h]
  · rw [Nat.min_eq_right (by omega), List.take_of_length_le (Nat.le_refl _), List.take_of_length_le (by omega)]
section
variable {P : Program} {w : World} {K : PySem.W.Frag} {mg : Str → Option Value} {base : Heap} (bi : Bi mg)
def TsR (t : Ent) : Prop := ∃ n Ts, t = .dat (tabsD false n Ts) ∧ TsOk n Ts 432
/-- each table between a view and its back -/
theorem en_moved {G : Gam} {n t : Nat} {Ts : List Tb} {V W : Tb} {kd : Bool} {tl : TE} {i v b : Nat} {vs : List Nat} (h : ED K tl G (tabsD kd n Ts)) (ok : TsOk n Ts t) (ht : t ≤ 1000) (bk : Bk n 4 V W) (hv : (wipeG G vs)[v]? = some (.dat (tabD n V))) (hb : (wipeG G vs)[b]? = some (.dat (tabD n W))) (hi : i ∈ vs) (hl : i < G.length) (nv : v ≠ i) (nb : b ≠ i) :
    EvN K (tLc (iSq K tl) (gName i) tYes (tCall (spLTimes K) [] E0 (tCons (tVar v) (tCons (tCall (spLTimes K) [] E0 (tCons (tVar i) (tCons (tVar b) tNil))) tNil))) vs) G ((Ts.map fun T => mulT n V (mulT n T W)).map (tabD n)) := by
  have wl : ∀ (vs : List Nat), (wipeG G vs).length = G.length := fun vs => by
    induction vs with
    | nil => rfl
    | cons v vs ih => show ((wipeG G vs).set v .no).length = _; rw [List.length_set, ih]
  refine (en_lc (p := fun _ => true) (f := fun j => tabD n (mulT n V (mulT n (tbl Ts j) W))) (w_sq (k := kd) (item := fun j => tabD n (tbl Ts j)) h fun j hj => tabs_in hj) (by rw [List.length_map]; have := ok.ln; omega) (fun j hj => by rw [List.mem_singleton.mp hj]; exact hi) (fun _ _ => et_yes) (fun j hj _ => ?_)).cast ?_
  · rw [List.length_map] at hj
    have c := ok.c _ (tbl_mem hj)
    refine ev_call (ea_cons (ev_var (by rw [List.getElem?_set_ne (fun z => nv z.symm)]; exact hv)) (ea_cons (ev_call (ea_cons (ev_var (List.getElem?_set_self (by rw [wl]; exact hl))) (ea_cons (ev_var (by rw [List.getElem?_set_ne (fun z => nb z.symm)]; exact hb)) ea_nil)) (spD_v (⟨n, tbl Ts j, W⟩ : TmA) ⟨ok.sz.1, ok.sz.2, le_bt c (by omega), le_bt bk.own.2 (by omega)⟩)) ea_nil)) (spD_v (⟨n, V, mulT n (tbl Ts j) W⟩ : TmA) ⟨ok.sz.1, ok.sz.2, le_bt bk.own.1 (by omega), le_bt (bk.right c) (by omega)⟩)
  · rw [picked_all, List.length_map, tab_map (f := fun T => tabD n (mulT n V (mulT n T W))), List.map_map]
    rfl
abbrev spLTables (K : PySem.W.Frag) : Sp := spW K 86 (fun _ : Unit => [.dat (.int 3)]) (fun _ => True) fun _ => TsR
include bi in
theorem ok_law_tables {f : Addr} {fd : FuncData} (F : L2.Fun K "_law_tables" "_law_tables" st_law_tables f fd) (c_law_draw : Wk.Cal P w K mg base 1 "_law_draw" (spLDraw K)) (c_law_pick : Wk.Cal P w K mg base 2 "_law_pick" (spLPick K)) (c_law_table : Wk.Cal P w K mg base 4 "_law_table" (spLTable K)) (c_law_times : Wk.Cal P w K mg base 1 "_law_times" (spLTimes K)) (c_law_unit : Wk.Cal P w K mg base 1 "_law_unit" (spLUnit K)) (c_law_shift : Wk.Cal P w K mg base 3 "_law_shift" (spLShift K)) (c_law_flat : Wk.Cal P w K mg base 1 "_law_flat" (spLFlat K)) : FnOk P w K mg base CX0 5 f fd ["_law_well_here", "_law_most"] (spLTables K) := by
  refine okW F sc_law_tables (fun _ => rfl) (by decide) fun _ p M cdv A outer s H σ Q E B B0 H0 hr _ X n0 wl hM e k => ⟨_, (pss_cons (ps_asg (pe_tup (pa_cons (pe_op op_add pe_int (pe_cal c_law_draw hr (by decide) (by rfl) (pa_cons (pv 0) (pa_cons (pv 1) pa_nil)))) (pa_cons (pe_op op_add pe_int (pe_cal c_law_draw hr (by decide) (by rfl) (pa_cons (pv 0) (pa_cons pe_int pa_nil)))) (pa_cons (pe_cal c_law_draw hr (by decide) (by rfl) (pa_cons (pv 0) (pa_cons pe_int pa_nil))) pa_nil)))) (pg_tup (by rfl) (pgs_cons (pg_name (i := 5) sc_law_tables.nd rfl (by first | exact Or.inl rfl | exact Or.inr rfl)) (pgs_cons (pg_name (i := 6) sc_law_tables.nd rfl (by first | exact Or.inl rfl | exact Or.inr rfl)) (pgs_cons (pg_name (i := 7) sc_law_tables.nd rfl (by first | exact Or.inl rfl | exact Or.inr rfl)) pgs_nil)))))
      (pss_cons (ps_set (i := 2) sc_law_tables.nd rfl (by first | exact Or.inl rfl | exact Or.inr rfl) (pe_lc (own := [("_law_k", 11)]) (wi := _) (g := gName 11) (by rfl) sc_law_tables.nd (pi_range1 (by rfl) bi.range (pa_cons (pv 6) pa_nil)) (blkOk_by (N := N_law_tables) (sc := (defScope st_law_tables)) (by decide +kernel)) (fun _ _ _ _ _ => (pg_name (i := 11) sc_law_tables.nd rfl (by first | exact Or.inl rfl | exact Or.inr rfl))) (fun _ _ _ _ _ => pts_nil) (fun _ _ _ _ _ => (pe_ifExp (pt_cmpR op_lt (pv 7) pe_int (nomark _)) (pe_cal c_law_pick hr (by decide) (by rfl) (pa_cons (pv 0) (pa_cons (pe_lst (pa_cons (pv 7) (pa_cons (pv 7) (pa_cons pe_int (pa_cons pe_int pa_nil))))) pa_nil))) pe_int))))
      (pss_cons (ps_setLc (own := [("_law_k", 11)]) (wi := _) (g := gName 11) (i := 3) rfl sc_law_tables.nd rfl rfl rfl (pi_range1 (by rfl) bi.range (pa_cons (pv 6) pa_nil)) (blkOk_by (N := N_law_tables) (sc := (defScope st_law_tables)) (by decide +kernel)) (fun _ _ _ _ _ => (pg_name (i := 11) sc_law_tables.nd rfl (by first | exact Or.inl rfl | exact Or.inr rfl))) (fun _ _ _ _ _ => pts_nil) (fun _ _ _ _ _ => (pe_cal c_law_table hr (by decide) (by rfl) (pa_cons (pv 0) (pa_cons (pv 5) (pa_cons (pe_ix (r := rIx K) ix_seq (pv 2) (pv 11) (fun _ _ => rfl)) pa_nil))))))
      (pss_cons (ps_if (pt_cmpR (r := rEqD K) (op_eqD hr.units) (pv 7) pe_int (nomark _)) (pss_cons (ps_set (i := 8) sc_law_tables.nd rfl (by first | exact Or.inl rfl | exact Or.inr rfl) (pe_cal c_law_table hr (by decide) (by rfl) (pa_cons (pv 0) (pa_cons (pv 5) (pa_cons (pe_cal c_law_pick hr (by decide) (by rfl) (pa_cons (pv 0) (pa_cons (pe_lst (pa_cons pe_int (pa_cons pe_int pa_nil))) pa_nil))) pa_nil)))))
      (pss_one (ps_set (i := 3) sc_law_tables.nd rfl (by first | exact Or.inl rfl | exact Or.inr rfl) (pe_slice (r := rSlB K) sl_any (pe_lst (pa_cons (pv 8) (pa_cons (pe_cal c_law_times hr (by decide) (by rfl) (pa_cons (pv 8) (pa_cons (pv 8) pa_nil))) (pa_cons (pe_cal c_law_unit hr (by decide) (by rfl) (pa_cons (pv 5) pa_nil)) pa_nil)))) po_none (po_some (pv 6)))))) pss_nil)
      (pss_cons (ps_asg (pe_cal c_law_shift hr (by decide) (by rfl) (pa_cons (pv 0) (pa_cons (pv 5) pa_nil))) (pg_tup (by rfl) (pgs_cons (pg_name (i := 9) sc_law_tables.nd rfl (by first | exact Or.inl rfl | exact Or.inr rfl)) (pgs_cons (pg_name (i := 10) sc_law_tables.nd rfl (by first | exact Or.inl rfl | exact Or.inr rfl)) pgs_nil))))
      (pss_cons (ps_setLc (own := [("_law_table_here", 12)]) (wi := iSq K _) (g := gName 12) (i := 3) rfl sc_law_tables.nd rfl rfl rfl (pi_sq (pv 3)) (blkOk_by (N := N_law_tables) (sc := (defScope st_law_tables)) (by decide +kernel)) (fun _ _ _ _ _ => (pg_name (i := 12) sc_law_tables.nd rfl (by first | exact Or.inl rfl | exact Or.inr rfl))) (fun _ _ _ _ _ => pts_nil) (fun _ _ _ _ _ => (pe_cal c_law_times hr (by decide) (by rfl) (pa_cons (pv 9) (pa_cons (pe_cal c_law_times hr (by decide) (by rfl) (pa_cons (pv 12) (pa_cons (pv 10) pa_nil))) pa_nil)))))
      (pss_cons (ps_set (i := 4) sc_law_tables.nd rfl (by first | exact Or.inl rfl | exact Or.inr rfl) (pe_cmpR op_le (pe_callB (r := rMax K) (cr_max (by rfl)) (by rfl) bi.max (by decide +kernel) (pa_cons (pe_lc (own := [("_law_table_here", 12)]) (wi := iSq K _) (g := gName 12) (by rfl) sc_law_tables.nd (pi_sq (pv 3)) (blkOk_by (N := N_law_tables) (sc := (defScope st_law_tables)) (by decide +kernel)) (fun _ _ _ _ _ => (pg_name (i := 12) sc_law_tables.nd rfl (by first | exact Or.inl rfl | exact Or.inr rfl))) (fun _ _ _ _ _ => pts_nil) (fun _ _ _ _ _ => (pe_callB (r := rMax K) (cr_max (by rfl)) (by rfl) bi.max (by decide +kernel) (pa_cons (pe_lc (own := [("_law_part", 13)]) (wi := iSq K _) (g := gName 13) (by rfl) sc_law_tables.nd (pi_sq (pe_cal c_law_flat hr (by decide) (by rfl) (pa_cons (pv 12) pa_nil))) (blkOk_by (N := N_law_tables) (sc := (relS _ (defScope st_law_tables))) (by decide +kernel)) (fun _ _ _ _ _ => (pg_name (i := 13) sc_law_tables.nd rfl (by first | exact Or.inl rfl | exact Or.inr rfl))) (fun _ _ _ _ _ => pts_nil) (fun _ _ _ _ _ => (pe_callB call_abs (by rfl) bi.abs (by decide +kernel) (pa_cons (pv 13) pa_nil)))) pa_nil)))) pa_nil)) (pe_op op_pow pe_int pe_int) (nomark _)))
      (pss_one (ps_ret (pe_ifExp (pt_val (pv 4)) (pe_callTy (r := rTupOf K) call_tuple_of (by rfl) bi.tuple (by decide +kernel) (pa_cons (pv 3) pa_nil)) (pe_tup (pa_cons (pe_cal c_law_unit hr (by decide) (by rfl) (pa_cons (pv 5) pa_nil)) pa_nil)))))))))))), ?_⟩
  have dr : ∀ {G : Gam} {te : TE} (m : Nat), G[0]? = some (.val (.ref p)) → ED K te G (.int (m : Int)) → 1 ≤ m ∧ m < 1000 → WE K p 1 (tCall (spLDraw K) [] E0 (tCons (tVar 0) (tCons te tNil))) G fun t => ∃ x : Int, t = .dat (.int x) ∧ 0 ≤ x ∧ x < m := fun m g0 h hm => (we_draw (m := m) (ev_val g0) h.we hm).up (by omega)
  have d1 : ∀ {G : Gam} {te : TE} (m : Nat), G[0]? = some (.val (.ref p)) → ED K te G (.int (m : Int)) → 1 ≤ m ∧ m < 1000 → WE K p 1 (tOp (rI0 fun i j => .int (i + j)) (tC (.int 1)) (tCall (spLDraw K) [] E0 (tCons (tVar 0) (tCons te tNil)))) G fun t => ∃ x : Int, t = .dat (.int x) ∧ 1 ≤ x ∧ x ≤ m := fun m g0 h hm => ((we_op (R := (· = .int 1)) (S := fun y => ∃ i : Int, y = .int i ∧ 0 ≤ i ∧ i < (m : Int)) (T := fun z => ∃ x : Int, z = .int x ∧ 1 ≤ x ∧ x ≤ (m : Int)) ev_int.weD (dr m g0 h hm).int (fun x y hx ⟨i, hy, h0, h1⟩ => by
    subst hx hy
    exact ⟨.int (1 + i), ⟨_, rfl, by omega, by omega⟩, rv_I0 fun _ => .int _⟩)).up (by omega)).imp fun t ⟨d, et, x, ed, hx⟩ => ⟨x, by rw [et, ed], hx⟩
  refine sw_tup3 (d1 3 rfl (ev_var rfl) ⟨by omega, by omega⟩) (d1 3 rfl ev_int ⟨by omega, by omega⟩) (dr 6 rfl ev_int ⟨by omega, by omega⟩) e X n0 wl (by omega) fun t u v σ1 H1 B1 ⟨x, et, hx⟩ ⟨y, eu, hy⟩ ⟨z, ev, hz⟩ X1 kp1 w1 e1 => ?_
  subst et eu ev
  obtain ⟨n, rfl⟩ := Int.eq_ofNat_of_zero_le (show 0 ≤ x by omega)
  obtain ⟨m, rfl⟩ := Int.eq_ofNat_of_zero_le (show 0 ≤ y by omega)
  have hn : 1 ≤ n ∧ n ≤ 3 := by omega
  have hm : 1 ≤ m ∧ m ≤ 3 := by omega
  refine sw_asg (c := 3) (R := fun t => ∃ ds, t = .dat (.list ds) ∧ ds.length = m ∧ ∀ (i : Nat) d, ds[i]? = some d → ∃ x : Int, d = .int x) (WE.up (we_lc (n := (m : Int).toNat) (js := [11]) (vs := [11]) (c := 1) (R := fun _ d => ∃ x : Int, d = .int x) (w_rng1 (ea_cons (ev_var rfl) ea_nil) ⟨by omega, by omega⟩) (by omega) (by decide) (fun i hi => we_if (et_test (ev_lt (ev_var rfl) ev_int)) (fun _ => ((we_pick (c := 0) (S := fun ds => ds = [.int z, .int z, .int 1, .int 3]) (ev_val rfl) ((en_lst (ea_cons (ev_var rfl) (ea_cons (ev_var rfl) (ea_cons ev_int (ea_cons ev_int ea_nil)))) (by simp)).dat.we.imp fun t et => ⟨_, et, rfl⟩) (fun ds hd => by rw [hd]; exact ⟨by simp, by simp⟩)).up (by omega)).imp fun t ⟨ds, d, hs, hd, et⟩ => ?_) fun _ => (ev_int.we.up (by omega)).imp fun t et => ⟨_, et, _, rfl⟩)) (by omega)) e1 X1 n0 w1 (by omega) fun t σ2 H2 B2 ⟨kd, et, lk, hk⟩ X2 kp2 w2 e2 => ?_
  · subst hs
    refine ⟨d, et, ?_⟩
    simp only [List.mem_cons, List.not_mem_nil, or_false] at hd
    rcases hd with rfl | rfl | rfl | rfl <;> exact ⟨_, rfl⟩
  subst et
  have tb : ∀ {G : Gam} {te : TE} {c : Nat}, G[0]? = some (.val (.ref p)) → G[5]? = some (.dat (.int (n : Int))) → (WE K p c te G fun t => ∃ z : Int, t = .dat (.int z)) → WE K p (c + 18) (tCall (spLTable K) [] E0 (tCons (tVar 0) (tCons (tVar 5) (tCons te tNil)))) G (TabR n 3) := fun g0 g5 h => (we_call (wa_cons (ev_val g0).we (wa_cons (ev_var g5).we (wa_cons h wa_nil))) (fun ts ⟨t, us, e1, e2, t2, us2, e3, e4, t3, us3, e5, ⟨z, e6⟩, e7⟩ => ⟨⟨n, z⟩, by rw [e1, e2, e3, e4, e5, e6, e7], hn, fun t ht => ht⟩)).up (by omega)
  refine sw_asg (c := 54) (R := fun t => ∃ ds, t = .dat (.list ds) ∧ ds.length = m ∧ ∀ (i : Nat) d, ds[i]? = some d → ∃ T, d = tabD n T ∧ CellsLe n 3 T) (WE.up (we_lc (n := (m : Int).toNat) (js := [11]) (vs := [11]) (c := 18) (R := fun _ d => ∃ T, d = tabD n T ∧ CellsLe n 3 T) (w_rng1 (ea_cons (ev_var rfl) ea_nil) ⟨by omega, by omega⟩) (by omega) (by decide) (fun i hi => ?_)) (by omega)) e2 X2 n0 w2 (by omega) fun t σ3 H3 B3 ⟨ds, et, lds, hd⟩ X3 kp3 w3 e3 => ?_
  · have hi : i < kd.length := by omega
    obtain ⟨z', ez⟩ := hk i _ (List.getElem?_eq_getElem hi)
    exact ((tb (c := 0) rfl rfl ((ev_ix (k := true) (ev_var rfl) (ev_var rfl) rfl (by rw [List.getElem?_eq_getElem hi, ez])).we.imp fun t et => ⟨_, et⟩)).up (by omega)).imp fun t ⟨T, et, hT⟩ => ⟨_, et, T, rfl, hT⟩
  subst et
  obtain ⟨Ts, rfl, hTs⟩ := tabs_of hd
  rw [List.length_map] at lds
  have ok0 : TsOk n Ts 27 := ⟨hn, by omega, fun T hT => (hTs T hT).mono (by omega)⟩
  refine s_ifJ (J := fun σ' H' => ∃ B' Ts', Wk.Env K B' σ' [.val (.ref p), .no, .no, .dat (tabsD true n Ts'), .no, .dat (.int (n : Int)), .no, .no, .no, .no, .no, .no, .no, .no] ∧ TsOk n Ts' 27 ∧ Ext B0 H0 B' H' ∧ Well K p (M + 79) B' H') (et_test (ev_eqI (ev_var rfl) ev_int)) e3 X3.le (fun σ4 H4 ⟨B4, Ts', e4, ok4, X4, w4⟩ => ?_) (fun _ H4 B4 x4 e4 kj => ?_) (fun _ H4 B4 x4 e4 kj => ?_)
  · have cs : ∀ T ∈ Ts', CellsLe n 27 T := ok4.c
    refine sw_unp (c := 7) (S := fun a b => ∃ V W, a = tabD n V ∧ b = tabD n W ∧ Bk n 4 V W) ((we_call (T := ShR n) (wa_cons (ev_val rfl).we (wa_cons (ev_var rfl).we wa_nil)) (fun ts ⟨t, us, e1, e2, t2, us2, e3, e4, e5⟩ => ⟨n, by rw [e1, e2, e3, e4, e5], hn, fun t ht => ht⟩)).up (by omega)) e4 X4 n0 w4 (by omega) fun a b σ5 H5 B5 ⟨V, W, ea, eb, bk⟩ X5 kp5 w5 e5 => ?_
    subst ea eb
    refine s_asg (t := .dat (tabsD true n (Ts'.map fun T => mulT n V (mulT n T W)))) (en_moved (kd := true) (ev_var rfl) ok4 (by omega) bk rfl rfl (by decide) (by simp) (by decide) (by decide)).dat e5 X5.le fun σ6 H6 B6 x6 e6 => ?_
    have ok6 := ok4.moved bk
    generalize hTm : (Ts'.map fun T => mulT n V (mulT n T W)) = Tm at e6 ok6
    have X6 := X5.trans x6
    have n9 := nn9' hn.2
    refine s_asg (t := .dat (.bool (decide (maxI ((List.range Tm.length).map fun i => maxI ((List.range (n * n)).map fun j => ((flatOf n (tbl Tm i) j).natAbs : Int))) ≤ 10 ^ (6 : Int).toNat)))) (ev_le (ev_cb (ea_cons ((en_lc (p := fun _ => true) (f := fun i => .int (maxI ((List.range (n * n)).map fun j => ((flatOf n (tbl Tm i) j).natAbs : Int)))) (w_sq (k := true) (item := fun j => tabD n (tbl Tm j)) (ev_var rfl) fun j hj => tabs_in hj) (by rw [List.length_map]; have := ok6.ln; omega) (by decide) (fun _ _ => et_yes) (fun i hi _ => ?_)).dat.cast (b := .list (((List.range Tm.length).map fun i => maxI ((List.range (n * n)).map fun j => ((flatOf n (tbl Tm i) j).natAbs : Int))).map .int)) ?_) ea_nil) (cv_max (by rw [List.length_map, List.length_range]; exact ok6.ln.1))) (ev_pow ev_int ev_int ⟨by decide, by decide, by decide⟩)) e6 X6.le fun σ7 H7 B7 x7 e7 => ?_
    · refine ev_cb (ea_cons ((en_lc (p := fun _ => true) (f := fun j => .int ((flatOf n (tbl Tm i) j).natAbs : Int)) (w_sq (k := false) (item := fun j => .int (flatOf n (tbl Tm i) j)) (ev_call (ea_cons (ev_var rfl) ea_nil) (spD_v ((n, tbl Tm i) : Nat × Tb) hn.2)) fun j hj => vec_in hj) (by rw [vec_len]; dsimp only; omega) (by decide) (fun _ _ => et_yes) (fun j hj _ => ev_cb (ea_cons (ev_var rfl) ea_nil) cv_abs)).dat.cast (b := .list (((List.range (n * n)).map fun j => ((flatOf n (tbl Tm i) j).natAbs : Int)).map .int)) ?_) ea_nil) (cv_max (by rw [List.length_map, List.length_range]; have : 1 * 1 ≤ n * n := Nat.mul_le_mul hn.1 hn.1; omega))
      rw [picked_all, vec_len, List.map_map]
      rfl
    · rw [picked_all, List.length_map, List.map_map]
      rfl
    · generalize decide ((_ : Int) ≤ (_ : Int)) = q at e7
      have X7 := X6.trans x7
      have w7 := ((w5.ext x6).ext x7).mono (show M + 79 + 7 ≤ M + 86 by omega)
      cases q with
      | true => exact s_ret (d := tabsD false n Tm) (ev_if (et_B (ev_var rfl)) (fun _ => ev_cb (ea_cons (ev_var rfl) ea_nil) (cv_tuple (k := true))) (fun h => by cases h)) e7 X7.le fun u H8 B8 x8 r8 => k u _ H8 B8 ⟨n, Tm, rfl, ok6⟩ (X7.trans x8) (w7.ext x8) (ok_dat r8)
      | false => exact s_ret (d := tabsD false n [unitT]) (ev_if (et_B (ev_var rfl)) (fun h => by cases h) (fun _ => ev_tup (ea_cons (ev_call (ea_cons (ev_var rfl) ea_nil) (spD_v n hn.2)) ea_nil) (by simp))) e7 X7.le fun u H8 B8 x8 r8 => k u _ H8 B8 ⟨n, [unitT], rfl, hn, by decide, fun T hT => by
          rw [List.mem_singleton.mp hT]
          exact bk_unit.own.1.mono (by omega)⟩ (X7.trans x8) (w7.ext x8) (ok_dat r8)
  · refine sw_asg (c := 19) ((tb (c := 1) rfl rfl (((we_pick (c := 0) (S := fun ds => ds = [.int 0, .int 1]) (ev_val rfl) ((en_lst (ea_cons ev_int (ea_cons ev_int ea_nil)) (by simp)).dat.we.imp fun t et => ⟨_, et, rfl⟩) (fun ds hd => by rw [hd]; exact ⟨by simp, by simp⟩)).up (by omega)).imp fun t ⟨ds, d, hs, hd, et⟩ => ?_)).up (by omega)) e4 (X3.trans x4) n0 (w3.ext x4) (by omega) fun t σ5 H5 B5 ⟨T, et, hT⟩ X5 kp5 w5 e5 => ?_
    · subst hs
      simp only [List.mem_cons, List.not_mem_nil, or_false] at hd
      rcases hd with rfl | rfl <;> exact ⟨_, et⟩
    subst et
    have hT : CellsLe n 3 T := hT
    refine s_asg (t := .dat (tabsD true n ([T, mulT n T T, unitT].take m))) ((ev_slice (k := true) (en_lst (ds := [tabD n T, tabD n (mulT n T T), tabD n unitT]) (ea_cons (ev_var rfl) (ea_cons (ev_call (ea_cons (ev_var rfl) (ea_cons (ev_var rfl) ea_nil)) (spD_v (⟨n, T, T⟩ : TmA) ⟨hn.1, hn.2, le_bt hT (by omega), le_bt hT (by omega)⟩)) (ea_cons (ev_call (ea_cons (ev_var rfl) ea_nil) (spD_v n hn.2)) ea_nil))) (by simp)).dat eo_none (eo_some (ev_var rfl))).cast ?_) e5 X5.le fun σ6 H6 B6 x6 e6 => ?_
    · rw [cutD_take]
      show PyData.list _ = PyData.list (([T, mulT n T T, unitT].take m).map (tabD n))
      rw [List.map_take]
      rfl
    refine kj _ _ ⟨B6, [T, mulT n T T, unitT].take m, e6.le ?_, ⟨hn, ?_, fun T' hT' => ?_⟩, X5.trans x6, (w5.ext x6).mono (by omega)⟩
    · exact ⟨rfl, trivial, trivial, rfl, trivial, rfl, trivial, trivial, trivial, trivial, trivial, trivial, trivial, trivial, trivial⟩
    · rw [List.length_take]
      simp
      omega
    · have hm := List.mem_of_mem_take hT'
      simp only [List.mem_cons, List.not_mem_nil, or_false] at hm
      rcases hm with rfl | rfl | rfl
      · exact hT.mono (by omega)
      · refine (mul_cells hT hT).mono ?_
        have : n * (3 * 3) ≤ 3 * (3 * 3) := Nat.mul_le_mul_right _ hn.2
        omega
      · exact bk_unit.own.1.mono (by omega)
  · dsimp only [tNext]
    refine kj _ _ ⟨B4, Ts, e4.le ?_, ok0, X3.trans x4, (w3.ext x4).mono (by omega)⟩
    exact ⟨rfl, trivial, trivial, rfl, trivial, rfl, trivial, trivial, trivial, trivial, trivial, trivial, trivial, trivial, trivial⟩
end
end At
-- V32
namespace At
open PySem PySem.Spec PyProof.Rows L2 Wk La
abbrev st_law_mate : Stmt := topS 70
abbrev N_law_mate : List Str := ["_law_well_here", "_law_tables_here", "_law_moved", "_law_size", "_law_way", "_law_view_here", "_law_back", "_law_at", "_law_lines_here", "_law_table_here", "_law_k", "_law_j", "_law_line"]
theorem sc_law_mate : FnScope N_law_mate ["_law_well_here", "_law_tables_here"] (defScope st_law_mate) := ⟨rfl, rfl, rfl, by decide +kernel, rfl, by decide +kernel, by decide +kernel⟩
theorem own_len {K : PySem.W.Frag} {G : Gam} {i : Nat} {σ : L2.St} {B H : Hp} {q : Addr} {ds : List D} (o : Own K q ds B H) (hi : G[i]? = some (.val (.ref q))) (e : Wk.Env K B σ G) (Q : VK) (k : Q (.int (ds.length : Int)) H) : tCB (rLenSq K) (tCons (tVar i) tNil) σ H Q := by
  obtain ⟨bp, xs, hp, r⟩ := o
  exact ⟨.ref q, env_dat e hi, q, xs, rfl, .inl (SqL.of hp), by rw [dps_len r]; exact k⟩
theorem s_argC {i : Nat} {te : TE} {sp : Sp} {E : XK} {g : TG} {De : Ends} {σ : L2.St} {H : Hp} {z : Int} (hte : ∀ Q : VK, Q (.int z) H → te σ H Q) (h : tAsg (tCall sp [] E (tCons (tVar i) (tCons (tC (.int z)) tNil))) g De σ H) : tAsg (tCall sp [] E (tCons (tVar i) (tCons te tNil))) g De σ H := by
  obtain ⟨v, hv, k⟩ := h
  exact ⟨v, hv, hte _ k⟩
theorem s_raw {i : Nat} {te : TE} {De : Ends} {σ : L2.St} {H : Hp} (h : te σ H (fun x H1 => De.nx (σ.set i (some x)) H1)) : tAsg te (gName i) De σ H := h
def trT (T : Tb) : Tb := fun k j => T j k
def bumpT (T : Tb) (a b : Nat) (z : Int) : Tb := fun i c => if i = a ∧ c = b then T i c + z else T i c
structure NTs where
  n : Nat
  Ts : List Tb
def MateR (a : NTs) (t : Ent) : Prop := ∃ m Os same, t = .dat (.tuple [tabsD false m Os, .bool same]) ∧ TsOk m Os 7000 ∧ (same = true → m = a.n ∧ Os.length = a.Ts.length ∧ ∃ X, Chg a.n a.Ts Os X ∧ det a.n X ≠ 0)
theorem TsOk.mono {n b c : Nat} {Ts : List Tb} (h : TsOk n Ts b) (l : b ≤ c) : TsOk n Ts c := ⟨h.sz, h.ln, fun T hT => (h.c T hT).mono l⟩
section
variable {P : Program} {w : World} {K : PySem.W.Frag} {mg : Str → Option Value} {base : Heap} (bi : Bi mg)
abbrev spLMate (K : PySem.W.Frag) : Sp := spW K 98 (fun a : NTs => [.dat (tabsD false a.n a.Ts)]) (fun a => TsOk a.n a.Ts 432) MateR
include bi in
theorem ok_law_mate {f : Addr} {fd : FuncData} (F : L2.Fun K "_law_mate" "_law_mate" st_law_mate f fd) (c_law_draw : Wk.Cal P w K mg base 1 "_law_draw" (spLDraw K)) (c_law_pick : Wk.Cal P w K mg base 2 "_law_pick" (spLPick K)) (c_law_shift : Wk.Cal P w K mg base 3 "_law_shift" (spLShift K)) (c_law_times : Wk.Cal P w K mg base 1 "_law_times" (spLTimes K)) (c_law_tables : Wk.Cal P w K mg base 5 "_law_tables" (spLTables K)) : FnOk P w K mg base CX0 6 f fd ["_law_well_here", "_law_tables_here"] (spLMate K) := by
  refine okW F sc_law_mate (fun _ => rfl) (by decide) fun ⟨n, Ts⟩ p M cdv A outer s H σ Q E B B0 H0 hr ok X n0 wl hM e k => ⟨_, (pss_cons (ps_asg (pe_tup (pa_cons (pe_callB (r := rLenSq K) call_len_seq (by rfl) bi.len (by decide +kernel) (pa_cons (pe_ix (r := rIx K) ix_seq (pv 1) pe_int (fun _ _ => rfl)) pa_nil)) (pa_cons (pe_cal c_law_draw hr (by decide) (by rfl) (pa_cons (pv 0) (pa_cons pe_int pa_nil))) pa_nil))) (pg_tup (by rfl) (pgs_cons (pg_name (i := 3) sc_law_mate.nd rfl (by first | exact Or.inl rfl | exact Or.inr rfl)) (pgs_cons (pg_name (i := 4) sc_law_mate.nd rfl (by first | exact Or.inl rfl | exact Or.inr rfl)) pgs_nil))))
      (pss_cons (ps_asg (pe_cal c_law_shift hr (by decide) (by rfl) (pa_cons (pv 0) (pa_cons (pv 3) pa_nil))) (pg_tup (by rfl) (pgs_cons (pg_name (i := 5) sc_law_mate.nd rfl (by first | exact Or.inl rfl | exact Or.inr rfl)) (pgs_cons (pg_name (i := 6) sc_law_mate.nd rfl (by first | exact Or.inl rfl | exact Or.inr rfl)) pgs_nil))))
      (pss_cons (ps_setLc (own := [("_law_table_here", 9)]) (wi := iSq K _) (g := gName 9) (i := 2) rfl sc_law_mate.nd rfl rfl rfl (pi_sq (pv 1)) (blkOk_by (N := N_law_mate) (sc := (defScope st_law_mate)) (by decide +kernel)) (fun _ _ _ _ _ => (pg_name (i := 9) sc_law_mate.nd rfl (by first | exact Or.inl rfl | exact Or.inr rfl))) (fun _ _ _ _ _ => pts_nil) (fun _ _ _ _ _ => (pe_cal c_law_times hr (by decide) (by rfl) (pa_cons (pv 5) (pa_cons (pe_cal c_law_times hr (by decide) (by rfl) (pa_cons (pv 9) (pa_cons (pv 6) pa_nil))) pa_nil)))))
      (pss_cons (ps_if (pt_cmpR (r := rEqD K) (op_eqD hr.units) (pv 4) pe_int (nomark _)) (pss_cons (ps_set (i := 7) sc_law_mate.nd rfl (by first | exact Or.inl rfl | exact Or.inr rfl) (pe_cal c_law_draw hr (by decide) (by rfl) (pa_cons (pv 0) (pa_cons (pe_callB (r := rLenSq K) call_len_seq (by rfl) bi.len (by decide +kernel) (pa_cons (pv 2) pa_nil)) pa_nil))))
      (pss_cons (ps_par (i := 10) (j := 11) (by rfl) sc_law_mate.nd rfl rfl (by decide) rfl rfl (pa_cons (pe_cal c_law_draw hr (by decide) (by rfl) (pa_cons (pv 0) (pa_cons (pv 3) pa_nil))) (pa_cons (pe_cal c_law_draw hr (by decide) (by rfl) (pa_cons (pv 0) (pa_cons (pv 3) pa_nil))) pa_nil)) (by rfl))
      (pss_cons (ps_setLc (own := [("_law_line", 12)]) (wi := iSq K _) (g := gName 12) (i := 8) rfl sc_law_mate.nd rfl rfl rfl (pi_sq (pe_ix (r := rIx K) ix_seq (pv 2) (pv 7) (fun _ _ => rfl))) (blkOk_by (N := N_law_mate) (sc := (defScope st_law_mate)) (by decide +kernel)) (fun _ _ _ _ _ => (pg_name (i := 12) sc_law_mate.nd rfl (by first | exact Or.inl rfl | exact Or.inr rfl))) (fun _ _ _ _ _ => pts_nil) (fun _ _ _ _ _ => (pe_callTy (r := rListOf K) call_list_of (by rfl) bi.list (by decide +kernel) (pa_cons (pv 12) pa_nil))))
      (pss_cons (ps_asg (pe_op op_add (pe_ix (r := rIx K) ix_seq (pe_ix (r := rIx K) ix_seq (pv 8) (pv 10) (fun _ _ => rfl)) (pv 11) (fun _ _ => rfl)) (pe_cal c_law_pick hr (by decide) (by rfl) (pa_cons (pv 0) (pa_cons (pe_lst (pa_cons pe_int (pa_cons (pe_un un_neg pe_int) pa_nil))) pa_nil)))) (pg_sub (pe_ix (r := rIx K) ix_seq (pv 8) (pv 10) (fun _ _ => rfl)) (pv 11) set_list))
      (pss_one (ps_asg (pe_callTy (r := rTupOf K) call_tuple_of (by rfl) bi.tuple (by decide +kernel) (pa_cons (pe_lc (own := [("_law_line", 12)]) (wi := iSq K _) (g := gName 12) (by rfl) sc_law_mate.nd (pi_sq (pv 8)) (blkOk_by (N := N_law_mate) (sc := (defScope st_law_mate)) (by decide +kernel)) (fun _ _ _ _ _ => (pg_name (i := 12) sc_law_mate.nd rfl (by first | exact Or.inl rfl | exact Or.inr rfl))) (fun _ _ _ _ _ => pts_nil) (fun _ _ _ _ _ => (pe_callTy (r := rTupOf K) call_tuple_of (by rfl) bi.tuple (by decide +kernel) (pa_cons (pv 12) pa_nil)))) pa_nil)) (pg_sub (pv 2) (pv 7) set_list))))))) pss_nil)
      (pss_cons (ps_if (pt_cmpR (r := rEqD K) (op_eqD hr.units) (pv 4) pe_int (nomark _)) (pss_one (ps_ret (pe_tup (pa_cons (pe_cal c_law_tables hr (by decide) (by rfl) (pa_cons (pv 0) (pa_cons pe_int pa_nil))) (pa_cons pe_bl pa_nil))))) pss_nil)
      (pss_cons (ps_if (pt_cmpR (r := rEqD K) (op_eqD hr.units) (pv 4) pe_int (nomark _)) (pss_one (ps_setLc (own := [("_law_table_here", 9)]) (wi := iSq K _) (g := gName 9) (i := 2) rfl sc_law_mate.nd rfl rfl rfl (pi_sq (pv 2)) (blkOk_by (N := N_law_mate) (sc := (defScope st_law_mate)) (by decide +kernel)) (fun _ _ _ _ _ => (pg_name (i := 9) sc_law_mate.nd rfl (by first | exact Or.inl rfl | exact Or.inr rfl))) (fun _ _ _ _ _ => pts_nil) (fun _ _ _ _ _ => (pe_callTy (r := rTupOf K) call_tuple_of (by rfl) bi.tuple (by decide +kernel) (pa_cons (pe_lc (own := [("_law_k", 10)]) (wi := _) (g := gName 10) (by rfl) sc_law_mate.nd (pi_range1 (by rfl) bi.range (pa_cons (pv 3) pa_nil)) (blkOk_by (N := N_law_mate) (sc := (relS _ (defScope st_law_mate))) (by decide +kernel)) (fun _ _ _ _ _ => (pg_name (i := 10) sc_law_mate.nd rfl (by first | exact Or.inl rfl | exact Or.inr rfl))) (fun _ _ _ _ _ => pts_nil) (fun _ _ _ _ _ => (pe_callTy (r := rTupOf K) call_tuple_of (by rfl) bi.tuple (by decide +kernel) (pa_cons (pe_lc (own := [("_law_j", 11)]) (wi := _) (g := gName 11) (by rfl) sc_law_mate.nd (pi_range1 (by rfl) bi.range (pa_cons (pv 3) pa_nil)) (blkOk_by (N := N_law_mate) (sc := (relS _ (relS _ (defScope st_law_mate)))) (by decide +kernel)) (fun _ _ _ _ _ => (pg_name (i := 11) sc_law_mate.nd rfl (by first | exact Or.inl rfl | exact Or.inr rfl))) (fun _ _ _ _ _ => pts_nil) (fun _ _ _ _ _ => (pe_ix (r := rIx K) ix_seq (pe_ix (r := rIx K) ix_seq (pv 9) (pv 11) (fun _ _ => rfl)) (pv 10) (fun _ _ => rfl)))) pa_nil)))) pa_nil))))) pss_nil)
      (pss_one (ps_ret (pe_tup (pa_cons (pe_callTy (r := rTupOf K) call_tuple_of (by rfl) bi.tuple (by decide +kernel) (pa_cons (pv 2) pa_nil)) (pa_cons (pe_cmpR (r := rIn K false) op_in_seq (pv 4) (pe_lst (pa_cons pe_int (pa_cons pe_int pa_nil))) (by rfl)) pa_nil))))))))))), ?_⟩
  dsimp only at ok e k
  have hn := ok.sz
  have hn3 : n = 1 ∨ n = 2 ∨ n = 3 := by omega
  have dr : ∀ {G : Gam} {te : TE} (m : Nat), G[0]? = some (.val (.ref p)) → ED K te G (.int (m : Int)) → 1 ≤ m ∧ m < 1000 → WE K p 1 (tCall (spLDraw K) [] E0 (tCons (tVar 0) (tCons te tNil))) G fun t => ∃ x : Int, t = .dat (.int x) ∧ 0 ≤ x ∧ x < m := fun m g0 h hm => (we_draw (m := m) (ev_val g0) h.we hm).up (by omega)
  refine sw_tup (ev_size (ev_var rfl) ok.ln.1).we (dr 5 rfl ev_int ⟨by omega, by omega⟩) e X n0 wl (by omega) fun t u σ1 H1 B1 et ⟨z, eu, hz⟩ X1 kp1 w1 e1 => ?_
  subst et eu
  refine sw_unp (c := 7) (S := fun a b => ∃ V W, a = tabD n V ∧ b = tabD n W ∧ Bk n 4 V W) ((we_call (T := ShR n) (wa_cons (ev_val rfl).we (wa_cons (ev_var rfl).we wa_nil)) (fun ts ⟨t, us, e1, e2, t2, us2, e3, e4, e5⟩ => ⟨n, by rw [e1, e2, e3, e4, e5], hn, fun t ht => ht⟩)).up (by omega)) e1 X1 n0 w1 (by omega) fun a b σ2 H2 B2 ⟨V, W, ea, eb, bk⟩ X2 kp2 w2 e2 => ?_
  subst ea eb
  have okm := ok.moved bk
  have chm : Chg n Ts (Ts.map fun T => mulT n V (mulT n T W)) V := bk.chg
  have dtm := bk.det hn3
  refine s_asgN (en_moved (kd := false) (ev_var rfl) ok (by omega) bk rfl rfl (by decide) (by simp) (by decide) (by decide)) e2 X2.le fun pm xs σ3 H3 B3 hpm x3 hh3 b3 r3 e3 => ?_
  have lm : (Ts.map fun T => mulT n V (mulT n T W)).length = Ts.length := List.length_map ..
  generalize hOs : (Ts.map fun T => mulT n V (mulT n T W)) = Os at *
  have X3 := X2.trans x3
  have w3 := w2.ext x3
  have n0m : H0 pm = none := Evl.fresh_back X2.ex hpm
  have nem : pm ≠ p := w2.neq hpm
  have o3 : Own K pm (Os.map (tabD n)) B3 H3 := Own.to hh3 b3 r3
  let GA : Ent → Gam := fun m => [.val (.ref p), .no, m, .dat (.int (n : Int)), .dat (.int z), .no, .no, .no, .no, .no, .no, .no, .no]
  refine s_ifJ (J := fun σ' H' => ∃ B' Os', Wk.Env K B' σ' (GA (.val (.ref pm))) ∧ Own K pm (Os'.map (tabD n)) B' H' ∧ Ext B0 H0 B' H' ∧ Well K p (M + 12) B' H' ∧ TsOk n Os' 7000 ∧ (z ≠ 1 → Os' = Os)) (et_test (ev_eqI (ev_var rfl) ev_int)) e3 X3.le (fun σ4 H4 ⟨B4, Os', e4, o4, X4, w4, ok4, same4⟩ => ?_) (fun hz1 H4 B4 x4 e4 kj => ?_) (fun hz1 H4 B4 x4 e4 kj => ?_)
  · refine s_if (et_test (ev_eqI (ev_var rfl) ev_int)) e4 X4.le (fun hz2 H5 B5 x5 e5 => ?_) fun hz2 H5 B5 x5 e5 => ?_
    · refine sw_ret (c := 86) (R := MateR ⟨n, Ts⟩) ((we_tup (c := 86) (S := fun ds => ∃ m Os, ds = [tabsD false m Os, .bool false] ∧ TsOk m Os 432) (WA.le (wa_cons (c1 := 86) ((we_call (T := TsR) (wa_cons (ev_val rfl).we (wa_cons ev_int.we wa_nil)) (fun ts ⟨t, us, e1, e2, t2, us2, e3, e4, e5⟩ => ⟨(), by rw [e1, e2, e3, e4, e5], trivial, fun t ht => ht⟩)).up (by omega)) (wa_cons ev_bl.we wa_nil)) (by omega) ?_) fun ds ⟨m, Os, e, _⟩ => by rw [e]; simp).imp fun t ⟨ds, et, m, Os, ed, okk⟩ => ⟨m, Os, false, by rw [et, ed], okk.mono (by omega), fun h => by cases h⟩) e5 (X4.trans x5) n0 (w4.ext x5) (by omega) fun v t H6 B6 rt X6 w6 r6 => k v t H6 B6 rt X6 w6 r6
      rintro ts ⟨t, us, rfl, ⟨m, Os, rfl, okk⟩, t2, us2, rfl, rfl, rfl⟩
      exact ⟨_, rfl, m, Os, rfl, okk⟩
    · dsimp only [tNext]
      have X5 := X4.trans x5
      obtain ⟨B6, e6, X6, b6, kp6⟩ := (o4.ext x5).show_ e5 X5 n0m (i := 2) rfl
      have w6 : Well K p (M + 12) B6 H5 := (w4.ext x5).own kp6 nem.symm
      have l6 : (Os'.map (tabD n)).length ≤ 100 := by rw [List.length_map]; have := ok4.ln; omega
      refine s_ifJ (J := fun σ' H' => ∃ B' Os2, Wk.Env K B' σ' (GA (.dat (tabsD true n Os2))) ∧ Ext B0 H0 B' H' ∧ Well K p (M + 12) B' H' ∧ TsOk n Os2 7000 ∧ (z ≠ 1 → z ≠ 3 → Os2 = Os)) (et_test (ev_eqI (ev_var rfl) ev_int)) e6 X6.le (fun σ7 H7 ⟨B7, Os2, e7, X7, w7, ok7, same7⟩ => ?_) (fun hz3 H7 B7 x7 e7 kj => ?_) (fun hz3 H7 B7 x7 e7 kj => ?_)
      · refine s_ret (ev_tup (ea_cons (ev_cb (ea_cons (ev_var rfl) ea_nil) (cv_tuple (k := true) (ds := Os2.map (tabD n)))) (ea_cons (ev_in (k := true) (ns := [0, 4]) (ev_var rfl) (en_lst (ea_cons ev_int (ea_cons ev_int ea_nil)) (by simp)).dat) ea_nil)) (by simp)) e7 X7.le fun u H8 B8 x8 r8 => k u _ H8 B8 ⟨n, Os2, _, rfl, ok7, fun hs => ?_⟩ (X7.trans x8) ((w7.ext x8).mono (by omega)) (ok_dat r8)
        have hz0 := of_decide_eq_true hs
        simp only [List.mem_cons, List.not_mem_nil, or_false] at hz0
        have eo := same7 (by omega) (by omega)
        subst eo
        exact ⟨rfl, lm, V, chm, dtm⟩
      · refine s_asg (t := .dat (tabsD true n (Os'.map trT))) ((en_lc (p := fun _ => true) (f := fun i => tabD n (trT (tbl Os' i))) (w_sq (k := true) (item := fun i => tabD n (tbl Os' i)) (ev_var rfl) fun i hi => tabs_in hi) (by omega) (by decide) (fun _ _ => et_yes) (fun i hi _ => ?_)).dat.cast ?_) e7 (X6.trans x7).le fun σ8 H8 B8 x8 e8 => ?_
        · rw [List.length_map] at hi
          refine (ev_cb (ea_cons (en_lc (p := fun _ => true) (f := fun r => rowD false n (trT (tbl Os' i) r)) (w_rng1 (ea_cons (ev_var rfl) ea_nil) ⟨by omega, by omega⟩) (by omega) (by decide) (fun _ _ => et_yes) (fun r hr' _ => ?_)).dat ea_nil) (cv_tuple (k := true))).cast (by rw [picked_all]; rfl)
          have hr' : r < n := by omega
          refine (ev_cb (ea_cons (en_lc (p := fun _ => true) (f := fun j => .int (trT (tbl Os' i) r j)) (w_rng1 (ea_cons (ev_var rfl) ea_nil) ⟨by omega, by omega⟩) (by omega) (by decide) (fun _ _ => et_yes) (fun j hj _ => ?_)).dat ea_nil) (cv_tuple (k := true))).cast (by rw [picked_all]; rfl)
          have hj : j < n := by omega
          exact (ev_cell (n := n) (i := j) (j := r) (T := tbl Os' i) (ev_var rfl) (ev_var rfl) (ev_var rfl) rfl rfl hj hr')
        · rw [picked_all, List.length_map, tab_map (f := fun T => tabD n (trT T))]
          show PyData.list _ = PyData.list ((Os'.map trT).map (tabD n))
          rw [List.map_map]
          rfl
        · refine kj _ _ ⟨B8, Os'.map trT, e8.le ?_, (X6.trans x7).trans x8, (w6.ext x7).ext x8, ⟨hn, by rw [List.length_map]; exact ok4.ln, fun T hT => ?_⟩, fun _ h3 => ?_⟩
          · exact ⟨rfl, trivial, rfl, rfl, rfl, trivial, trivial, trivial, trivial, trivial, trivial, trivial, trivial, trivial⟩
          · obtain ⟨T', hT', rfl⟩ := List.mem_map.mp hT
            exact fun i j hi hj => ok4.c T' hT' j i hj hi
          · simp at hz3
            exact absurd hz3 h3
      · dsimp only [tNext]
        refine kj _ _ ⟨B7, Os', e7.le ?_, X6.trans x7, w6.ext x7, ok4, fun h1 _ => same4 h1⟩
        exact ⟨rfl, trivial, rfl, rfl, rfl, trivial, trivial, trivial, trivial, trivial, trivial, trivial, trivial, trivial⟩
  · have hz1 : z = 1 := by simpa using hz1
    have X4 := X3.trans x4
    have o4 := o3.ext x4
    have lo : (Os.map (tabD n)).length = Os.length := List.length_map ..
    have okl := okm.ln
    refine s_argC (z := ((Os.map (tabD n)).length : Int)) (own_len o4 rfl e4) ?_
    refine sw_asg (dr Os.length rfl (by rw [lo]; exact ev_int) (by omega)) e4 X4 n0 (w3.ext x4) (by omega) fun t σ5 H5 B5 ⟨a, et, ha0, ha⟩ X5 kp5 w5 e5 => ?_
    subst et
    obtain ⟨at_, rfl⟩ := Int.eq_ofNat_of_zero_le ha0
    have ha : at_ < Os.length := by omega
    refine sw_par (dr n rfl (ev_var rfl) (by omega)) (dr n rfl (ev_var rfl) (by omega)) e5 X5 n0 w5 (by omega) fun t u σ6 H6 B6 ⟨x, et, hx0, hx⟩ ⟨y, eu, hy0, hy⟩ X6 kp6 w6 e6 => ?_
    subst et eu
    obtain ⟨kk, rfl⟩ := Int.eq_ofNat_of_zero_le hx0
    obtain ⟨jj, rfl⟩ := Int.eq_ofNat_of_zero_le hy0
    have hk : kk < n := by omega
    have hj : jj < n := by omega
    have o6 := kp6.own pm _ nem (kp5.own pm _ nem o4)
    let T := tbl Os at_
    refine s_raw (lcK (n := ((List.range n).map fun i => rowD false n (T i)).length) (js := [12]) (vs := [12]) (te := tCB (rListOf K) (tCons (tVar 12) tNil)) (up := fun i G => G.set 12 (.dat (rowD false n (T i)))) (f := fun i => vec n (T i)) (m := kk) (w_sq_at (k := false) (item := fun i => rowD false n (T i)) (o6.ix (i := 2) (j := 7) (m := at_) (d := tabD n T) rfl e6 rfl (tab_at ha)) X6.le fun i hi => range_in hi) (by rw [List.length_map, List.length_range]; omega) (by decide) (fun i hi => en_cb (ea_cons (ev_var rfl) ea_nil) (cv_list (k := false))) e6 (by rw [List.length_map, List.length_range]; exact hk) fun L q xs H7 B7 hL hq x7 bL oq lx hxq hd => ?_)
    rw [List.length_map, List.length_range] at lx
    have X7 := X6.trans x7
    have w7 := w6.ext x7
    have o7 := o6.ext x7
    have e7 := (e6.mono x7.bb).set (i := 8) (v := .ref L) (t := .val (.ref L)) rfl
    have nq0 : H0 q = none := Evl.fresh_back X6.ex hq
    have neq : q ≠ p := w6.neq hq
    have nqm : q ≠ pm := fun z => o6.ne hq z
    refine s_cellW (c := 1) (R := fun z => z.natAbs ≤ 1) (m := kk) (m2 := jj) (y := T kk jj) (((we_pick (c := 0) (S := fun ds => ds = [.int 1, .int (-1)]) (ev_val rfl) ((en_lst (ea_cons ev_int (ea_cons (ev_neg ev_int) ea_nil)) (by simp)).dat.we.imp fun t et => ⟨_, et, rfl⟩) (fun ds hd => by rw [hd]; exact ⟨by simp, by simp⟩)).up (by omega)).imp fun t ⟨ds, d, hs, hd, et⟩ => ?_) e7 X7 n0 w7 (by omega) rfl rfl rfl bL hxq oq (vec_at hj) nq0 neq fun zz H8 B8 hzz X8 b8 oq8 w8 kp8 e8 => ?_
    · subst hs
      simp only [List.mem_cons, List.not_mem_nil, or_false] at hd
      rcases hd with rfl | rfl
      · exact ⟨1, et, by decide⟩
      · exact ⟨-1, et, by decide⟩
    · have o8 := kp8 pm _ nem (fun z => nqm z.symm) o7
      let T' := bumpT T kk jj zz
      have er : (vec n (T kk)).set jj (.int (T kk jj + zz)) = vec n (T' kk) := by
        rw [vec_set]
        refine vec_congr fun c hc => ?_
        show _ = bumpT T kk jj zz kk c
        unfold bumpT
        by_cases h : c = jj
        · subst h; simp [La.upd]
        · simp [h, La.upd]
      rw [er] at oq8
      have hd8 : ∀ i v, i ≠ kk → xs[i]? = some v → Dp K B8 v (.list (vec n (T' i))) := fun i v hi hv => by
        have := dp_mono b8 _ (hd i v hi hv)
        have e9 : vec n (T' i) = vec n (T i) := vec_congr fun c hc => by
          show bumpT T kk jj zz i c = _
          unfold bumpT
          rw [if_neg (fun z => hi z.1)]
        rw [e9]
        exact this
      obtain ⟨B9, e9, X9, b9, kp9⟩ := show_rows (f := fun i => vec n (T' i)) (i := 8) e8 X8 nq0 rfl (b8 L _ bL) hxq oq8 hd8
      rw [lx] at e9
      have o9 := kp9 pm _ (fun z => nqm z.symm) o8
      have w9 := w8.own kp9 neq.symm
      refine o9.setL (m := at_) (d := tabD n T') (ev_val rfl) (ev_var rfl) rfl ((ev_cb (ea_cons (en_lc (p := fun _ => true) (f := fun i => rowD false n (T' i)) (w_sq (k := true) (ds := (List.range n).map fun i => PyData.list (vec n (T' i))) (item := fun i => .list (vec n (T' i))) (ev_var rfl) fun i hi => range_in hi) (by rw [List.length_map, List.length_range]; omega) (by decide) (fun _ _ => et_yes) (fun i hi _ => ev_cb (ea_cons (ev_var rfl) ea_nil) (cv_tuple (k := true)))).dat ea_nil) (cv_tuple (k := true))).cast (by rw [picked_all, List.length_map, List.length_range]; rfl)) e9 X9 n0m (by rw [lo]; exact ha) fun H10 B10 X10 kp10 o10 e10 => ?_
      rw [← List.map_set] at o10
      refine kj _ _ ⟨B10, Os.set at_ T', e10.le ?_, o10, X10, (w9.keep kp10 nem.symm).mono (by omega), ⟨hn, by rw [List.length_set]; exact okl, fun U hU => ?_⟩, fun h => absurd hz1 h⟩
      · exact ⟨rfl, trivial, rfl, rfl, rfl, trivial, trivial, trivial, trivial, trivial, trivial, trivial, trivial, trivial⟩
      · rcases List.mem_or_eq_of_mem_set hU with h | rfl
        · exact (okm.c U h).mono (by omega)
        · intro i c hi hc
          have := okm.c T (tbl_mem ha) i c hi hc
          show (bumpT T kk jj zz i c).natAbs ≤ 7000
          unfold bumpT
          have this : (T i c).natAbs ≤ 432 * 16 := this
          have hzz : zz.natAbs ≤ 1 := hzz
          split <;> omega
  · dsimp only [tNext]
    refine kj _ _ ⟨B4, Os, e4.le ?_, o3.ext x4, X3.trans x4, (w3.ext x4).mono (by omega), okm.mono (by omega), fun _ => rfl⟩
    exact ⟨rfl, trivial, rfl, rfl, rfl, trivial, trivial, trivial, trivial, trivial, trivial, trivial, trivial, trivial⟩
end
end At
-- V33
namespace At
open PySem PySem.Spec PyProof.Rows L2 Wk La
abbrev st_law_right : Stmt := topS 71
abbrev N_law_right : List Str := ["_law_well_here", "_law_turn", "_law_tables_here", "_law_told", "_law_fits", "_law_others", "_law_same", "_law_some"]
theorem sc_law_right : FnScope N_law_right ["_law_well_here"] (defScope st_law_right) := ⟨rfl, rfl, rfl, by decide +kernel, rfl, by decide +kernel, by decide +kernel⟩
theorem sh_opt {n : Nat} {o : Option Tb} : Sh 2 (optTab n o) := by
  cases o with
  | none => exact ⟨rfl, Nat.zero_le _⟩
  | some T => exact sh_tab
theorem TsOk.lot {n : Nat} {Ts : List Tb} (h : TsOk n Ts 7000) : LotOk n Ts := ⟨h.ln.1, h.ln.2, fun t ht => ⟨h.sz.1, h.sz.2, fun i j hi hj => Nat.le_trans (h.c _ (tbl_mem ht) i j hi hj) (by decide)⟩⟩
theorem three {n : Nat} (h : 1 ≤ n ∧ n ≤ 3) : n = 1 ∨ n = 2 ∨ n = 3 := by omega
theorem TsOk.ch {n m : Nat} {Ts Os : List Tb} (h : TsOk n Ts 7000) (g : TsOk m Os 7000) : ChOk ⟨n, m, Ts, Os⟩ := ⟨three h.sz, three g.sz, h.ln, g.ln, fun T hT => h.c T hT, fun T hT => g.c T hT⟩
theorem told_fits {n m : Nat} {Ts Os : List Tb} {X : Tb} (h : toldAll ⟨n, m, Ts, Os⟩ = some X) : (Ts.length = Os.length ∧ n = m) ∧ told n Ts Os = some X := by
  unfold toldAll at h
  dsimp only at h
  split at h
  · rename_i q
    exact ⟨q, h⟩
  · cases h
theorem isN_opt {n : Nat} {o : Option Tb} : isN (optTab n o) = o.isNone := by
  cases o <;> rfl
section
variable {P : Program} {w : World} {K : PySem.W.Frag} {mg : Str → Option Value} {base : Heap} (bi : Bi mg) {C p pp gt fi : Addr} {fdi : FuncData} {ix : Nat} (lf : LotF K mg C p pp gt ix)
theorem mk_lot {G : Gam} {te : TE} {n : Nat} {Ts : List Tb} {σ : L2.St} {B H : Hp} (h : ED K te G (tabsD false n Ts)) (ok : LotOk n Ts) (e : Wk.Env K B σ G) (eb : Evl.Ex B H) {Q : VK} (k : ∀ x dx vt H' B', Ext B H B' H' → LotO C ix x dx vt B' H' → Dp K B' vt (tabsD false n Ts) → Q (.ref x) H') : tMake C (spInit K C ix) [] E0 (tCons te tNil) σ H Q :=
  h σ B H e eb _ fun v H1 B1 x1 r1 x dx hx hdx ne => by
    have bx := Evl.fresh_back x1.le hx
    have bd := Evl.fresh_back x1.le hdx
    refine ⟨⟨n, Ts⟩, x, dx, v, B1, rfl, ?_, ne, bx, bd, upd_same, by rw [upd_ne ne, upd_same], dat_ok r1, ok, fun vt2 H' B' Y lo rt => ⟨rfl, k x dx vt2 H' B' (x1.trans (Y.fresh (fun a ha => ?_) fun a ha => ?_)) lo rt⟩⟩
    · intro a o z
      have h1 : a ≠ x := fun q => by rw [q, bx] at z; cases z
      have h2 : a ≠ dx := fun q => by rw [q, bd] at z; cases z
      rw [upd_ne h1, upd_ne h2]
      exact x1.le a o z
    · rcases List.mem_cons.mp ha with q | q
      · rw [q]; exact hx
      · rw [List.mem_singleton.mp q]; exact hdx
    · have h1 : a ≠ x := fun q => ha (by rw [q]; exact List.mem_cons_self)
      have h2 : a ≠ dx := fun q => ha (by rw [q]; exact List.mem_cons_of_mem _ List.mem_cons_self)
      rw [upd_ne h1, upd_ne h2]
theorem ev_alike {G : Gam} {ta tb : TE} {n m : Nat} {Ts Os : List Tb} (ha : ED K ta G (tabsD false n Ts)) (hb : ED K tb G (tabsD false m Os)) (h1 : TsOk n Ts 7000) (h2 : TsOk m Os 7000) : ED K (tCall (spAlike K C ix) [] E0 (tCons (tMake C (spInit K C ix) [] E0 (tCons ta tNil)) (tCons (tMake C (spInit K C ix) [] E0 (tCons tb tNil)) tNil))) G (optTab n (toldAll ⟨n, m, Ts, Os⟩)) := fun σ B H e eb Q k => by
  show tMake C (spInit K C ix) [] E0 (tCons ta tNil) σ H fun x H1 => tMake C (spInit K C ix) [] E0 (tCons tb tNil) σ H1 fun y H2 => spAlike K C ix [x, y] H2 Q E0
  exact mk_lot ha h1.lot e eb fun x dx vt H1 B1 x1 lo1 r1 => mk_lot hb h2.lot (e.mono x1.bb) x1.le fun y dy vu H2 B2 x2 lo2 r2 =>
    ⟨⟨⟨n, m, Ts, Os⟩, x, dx, y, dy, vt, vu⟩, B2, rfl, x2.le, lo1.ext x2, lo2, dp_mono x2.bb _ r1, r2, h1.ch h2, fun v H' B' x3 rv => k v H' B' ((x1.trans x2).trans x3) (ok_dat rv)⟩
theorem ev_alikeK {G : Gam} {ta tb : TE} {n m : Nat} {Ts Os : List Tb} (ha : ED K ta G (tabsD false n Ts)) (hb : ED K tb G (tabsD false m Os)) (h1 : TsOk n Ts 7000) (h2 : TsOk m Os 7000) : ED K (tCallN 0 2 (spAlike K C ix) (fun _ zs => zs.reverse) E0 tNil (tCons (tMake C (spInit K C ix) [] E0 (tCons tb tNil)) (tCons (tMake C (spInit K C ix) [] E0 (tCons ta tNil)) tNil))) G (optTab n (toldAll ⟨n, m, Ts, Os⟩)) := fun σ B H e eb Q k => by
  show tMake C (spInit K C ix) [] E0 (tCons tb tNil) σ H fun y H1 => tMake C (spInit K C ix) [] E0 (tCons ta tNil) σ H1 fun x H2 => 0 = 0 ∧ 2 = 2 ∧ spAlike K C ix [x, y] H2 Q E0
  exact mk_lot hb h2.lot e eb fun y dy vu H1 B1 x1 lo1 r1 => mk_lot ha h1.lot (e.mono x1.bb) x1.le fun x dx vt H2 B2 x2 lo2 r2 =>
    ⟨rfl, rfl, ⟨⟨n, m, Ts, Os⟩, x, dx, y, dy, vt, vu⟩, B2, rfl, x2.le, lo2, lo1.ext x2, r2, dp_mono x2.bb _ r1, h1.ch h2, fun v H' B' x3 rv => k v H' B' ((x1.trans x2).trans x3) (ok_dat rv)⟩
abbrev spLRight (K : PySem.W.Frag) : Sp := spW K 1104 (fun _ : Unit => []) (fun _ => True) fun _ t => t = .dat (.bool true)
include bi lf in
theorem ok_law_right {f : Addr} {fd : FuncData} (F : L2.Fun K "_law_right" "_law_right" st_law_right f fd) (c_law_tables : Wk.Cal P w K mg base 5 "_law_tables" (spLTables K)) (c_law_mate : Wk.Cal P w K mg base 6 "_law_mate" (spLMate K)) (c_alike : Wk.Cal P w K mg base 10 "alike" (spAlike K C ix)) (c_alikeK : Wk.CalK P w K mg base 10 "alike" ["other", "lot"] (spAlike K C ix))
    (mk : Mk K C fi) (Fi : FnOk P w K mg base CX0 5 fi fdi ["self", "tables"] (spInit K C ix)) (bdi : L2.Binds K fdi ["self", "tables"] []) (c_law_is_change : Wk.Cal P w K mg base 5 "_law_is_change" (spLIsChange K)) (c_law_changes : Wk.Cal P w K mg base 5 "_law_changes" (spLChanges K)) (c_law_some_regular : Wk.Cal P w K mg base 5 "_law_some_regular" (spLSomeReg K)) : FnOk P w K mg base CX0 11 f fd ["_law_well_here"] (spLRight K) := by
  refine okW F sc_law_right (fun _ => rfl) (by decide) fun _ p M cdv A outer s H σ Q E B B0 H0 hr _ X n0 wl hM e k => ⟨_, (pss_cons (ps_for PassesOwn.never (by rfl) (pi_range1 (by rfl) bi.range (pa_cons pe_int pa_nil)) (pg_name (i := 1) sc_law_right.nd rfl (by first | exact Or.inl rfl | exact Or.inr rfl)) (pss_cons (ps_set (i := 2) sc_law_right.nd rfl (by first | exact Or.inl rfl | exact Or.inr rfl) (pe_cal c_law_tables hr (by decide) (by rfl) (pa_cons (pv 0) (pa_cons pe_int pa_nil))))
      (pss_cons (ps_asg (pe_cal c_law_mate hr (by decide) (by rfl) (pa_cons (pv 0) (pa_cons (pv 2) pa_nil))) (pg_tup (by rfl) (pgs_cons (pg_name (i := 5) sc_law_right.nd rfl (by first | exact Or.inl rfl | exact Or.inr rfl)) (pgs_cons (pg_name (i := 6) sc_law_right.nd rfl (by first | exact Or.inl rfl | exact Or.inr rfl)) pgs_nil))))
      (pss_cons (ps_set (i := 3) sc_law_right.nd rfl (by first | exact Or.inl rfl | exact Or.inr rfl) (pe_cal c_alike hr (by decide) (by rfl) (pa_cons (pe_make (k := 5) mk Fi (hr.mono (by decide)) (by rfl) lf.glob bdi .nil pass0 (pa_cons (pv 2) pa_nil)) (pa_cons (pe_make (k := 5) mk Fi (hr.mono (by decide)) (by rfl) lf.glob bdi .nil pass0 (pa_cons (pv 5) pa_nil)) pa_nil))))
      (pss_cons (ps_set (i := 4) sc_law_right.nd rfl (by first | exact Or.inl rfl | exact Or.inr rfl) (pe_and (pe_cmpR (r := rEqD K) (op_eqD hr.units) (pe_callB (r := rLenSq K) call_len_seq (by rfl) bi.len (by decide +kernel) (pa_cons (pv 2) pa_nil)) (pe_callB (r := rLenSq K) call_len_seq (by rfl) bi.len (by decide +kernel) (pa_cons (pv 5) pa_nil)) (nomark _)) (pe_one (pe_cmpR (r := rEqD K) (op_eqD hr.units) (pe_callB (r := rLenSq K) call_len_seq (by rfl) bi.len (by decide +kernel) (pa_cons (pe_ix (r := rIx K) ix_seq (pv 2) pe_int (fun _ _ => rfl)) pa_nil)) (pe_callB (r := rLenSq K) call_len_seq (by rfl) bi.len (by decide +kernel) (pa_cons (pe_ix (r := rIx K) ix_seq (pv 5) pe_int (fun _ _ => rfl)) pa_nil)) (nomark _)))))
      (pss_cons (ps_if ((pw_or (pt_cmpR (r := rNeD K) (op_neD hr.units) (pe_calK c_alikeK hr (by decide) (by rfl) (pk_cons (pe_make (k := 5) mk Fi (hr.mono (by decide)) (by rfl) lf.glob bdi .nil pass0 (pa_cons (pv 5) pa_nil)) (pk_cons (pe_make (k := 5) mk Fi (hr.mono (by decide)) (by rfl) lf.glob bdi .nil pass0 (pa_cons (pv 2) pa_nil)) pk_nil))) (pv 3) (nomark _)) (pw_or1 ((pw_and (pt_not (pt_val (pv 4))) (pw_and1 (pt_cmpR (r := rNotNone) op_notN (pv 3) pe_non (nomark _))))).pt))).pt (pss_one (ps_ret pe_bl)) pss_nil)
      (pss_cons (ps_if ((pw_and (pt_val (pv 6)) (pw_and1 (pt_cmpR (r := rIsNone) op_isN (pv 3) pe_non (nomark _))))).pt (pss_one (ps_ret pe_bl)) pss_nil)
      (pss_cons (ps_if ((pw_and (pt_cmpR (r := rNotNone) op_notN (pv 3) pe_non (nomark _)) (pw_and1 (pt_not (pt_val (pe_cal c_law_is_change hr (by decide) (by rfl) (pa_cons (pv 2) (pa_cons (pv 5) (pa_cons (pv 3) pa_nil))))))))).pt (pss_one (ps_ret pe_bl)) pss_nil)
      (pss_one (ps_if ((pw_and (pt_val (pv 4)) (pw_and1 (pt_cmpR (r := rIsNone) op_isN (pv 3) pe_non (nomark _))))).pt (pss_cons (ps_set (i := 7) sc_law_right.nd rfl (by first | exact Or.inl rfl | exact Or.inr rfl) (pe_cal c_law_changes hr (by decide) (by rfl) (pa_cons (pv 2) (pa_cons (pv 5) pa_nil))))
      (pss_one (ps_if ((pw_and (pt_cmpR op_lt (pe_callB (r := rLenSq K) call_len_seq (by rfl) bi.len (by decide +kernel) (pa_cons (pv 7) pa_nil)) pe_int (nomark _)) (pw_and1 (pt_val (pe_cal c_law_some_regular hr (by decide) (by rfl) (pa_cons (pv 7) (pa_cons (pe_callB (r := rLenSq K) call_len_seq (by rfl) bi.len (by decide +kernel) (pa_cons (pe_ix (r := rIx K) ix_seq (pv 2) pe_int (fun _ _ => rfl)) pa_nil)) pa_nil))))))).pt (pss_one (ps_ret pe_bl)) pss_nil))) pss_nil))))))))))
      (pss_one (ps_ret pe_bl))), ?_⟩
  let G0 : Gam := [.val (.ref p), .no, .no, .no, .no, .no, .no, .no]
  refine s_for (n := (6 : Int).toNat) (B0 := B0) (H0 := H0) (Gi := fun _ => G0) (Φ := fun _ i B' H' => Well K p (M + i * 184) B' H') (w_rng1 (ea_cons ev_int ea_nil) ⟨by omega, by omega⟩) e X (fun B2 H2 x2 => ⟨⟨rfl, trivial, trivial, trivial, trivial, trivial, trivial, trivial, trivial⟩, (wl.ext x2).mono (by omega)⟩) (fun B2 i σ3 B3 H3 H4 hi X3 b3 w3 x4 e3 => ?_) (fun B2 σ3 B3 H3 e3 X3 w3 => ?_)
  · have hi : i < 6 := by omega
    have X4 := X3.trans x4
    refine sw_asg (c := 86) (R := TsR) ((we_call (T := TsR) (wa_cons (ev_val rfl).we (wa_cons ev_int.we wa_nil)) (fun ts ⟨t, us, e1, e2, t2, us2, e3, e4, e5⟩ => ⟨(), by rw [e1, e2, e3, e4, e5], trivial, fun t ht => ht⟩)).up (by omega)) e3 X4 n0 (w3.ext x4) (by omega) fun t σ5 H5 B5 ⟨n, Ts, et, okT⟩ X5 kp5 w5 e5 => ?_
    subst et
    refine sw_unp (c := 98) (S := fun a b => ∃ m Os same, a = tabsD false m Os ∧ b = .bool same ∧ TsOk m Os 7000 ∧ (same = true → m = n ∧ Os.length = Ts.length ∧ ∃ X, Chg n Ts Os X ∧ det n X ≠ 0)) (((we_call (T := MateR ⟨n, Ts⟩) (wa_cons (ev_val rfl).we (wa_cons (ev_var rfl).we wa_nil)) (fun ts ⟨t, us, e1, e2, t2, us2, e3, e4, e5⟩ => ⟨⟨n, Ts⟩, by rw [e1, e2, e3, e4, e5], okT, fun t ht => ht⟩)).up (by omega)).imp fun t ⟨m, Os, same, et, okk, hs⟩ => ⟨_, _, et, m, Os, same, rfl, rfl, okk, hs⟩) e5 X5 n0 w5 (by omega) fun a b σ6 H6 B6 ⟨m, Os, same, ea, eb, okO, hsame⟩ X6 kp6 w6 e6 => ?_
    subst ea eb
    have okT := okT.mono (show 432 ≤ 7000 by omega)
    have hn3 := three okT.sz
    have sT : Sml n Ts := fun T hT => okT.c T hT
    refine s_asg (ev_alike (ev_var rfl) (ev_var rfl) okT okO) e6 X6.le fun σ7 H7 B7 x7 e7 => ?_
    have lT : ∀ {G : Gam} {te : TE}, ED K te G (tabsD false n Ts) → ED K (tCB (rLenSq K) (tCons te tNil)) G (.int (Ts.length : Int)) := fun h => (ev_cb (ea_cons h ea_nil) (cv_len (k := false))).cast (by rw [List.length_map])
    have lO : ∀ {G : Gam} {te : TE}, ED K te G (tabsD false m Os) → ED K (tCB (rLenSq K) (tCons te tNil)) G (.int (Os.length : Int)) := fun h => (ev_cb (ea_cons h ea_nil) (cv_len (k := false))).cast (by rw [List.length_map])
    refine s_asg (ev_and (ev_eqI (lT (ev_var rfl)) (lO (ev_var rfl))) fun _ => ev_eqI (ev_size (ev_var rfl) okT.ln.1) (ev_size (ev_var rfl) okO.ln.1)) e7 (X6.trans x7).le fun σ8 H8 B8 x8 e8 => ?_
    have X8 := (X6.trans x7).trans x8
    have w8 := (w6.ext x7).ext x8
    have hfb : (((Ts.length : Int) == (Os.length : Int)) && ((n : Int) == (m : Int))) = true ↔ Ts.length = Os.length ∧ n = m := by
      rw [Bool.and_eq_true, beq_iff_eq, beq_iff_eq]
      omega
    generalize hf : (((Ts.length : Int) == (Os.length : Int)) && ((n : Int) == (m : Int))) = fb at e8 hfb
    refine s_if ((et_or (et_test (ev_ne (ev_alikeK (n := n) (m := m) (Ts := Ts) (Os := Os) (ev_var rfl) (ev_var rfl) okT okO) (ev_var rfl) (sh_opt.shaped (by decide)) (sh_opt.shaped (by decide)))) fun _ => et_and (et_not (et_B (ev_var rfl))) fun _ => et_test (ev_notN (ev_var rfl))).cast (q := false) ?_) e8 X8.le (fun h => by cases h) fun _ H9 B9 x9 e9 => ?_
    · rw [PySem.SeqAt.eqv_refl _ sh_opt.1, isN_opt]
      cases hA : toldAll ⟨n, m, Ts, Os⟩ with
      | none => simp
      | some Y =>
        have := hfb.mpr (told_fits hA).1
        rw [this]
        rfl
    dsimp only [tNext]
    have X9 := X8.trans x9
    refine s_if ((et_and (et_B (ev_var rfl)) fun _ => et_test (ev_isN (ev_var rfl))).cast (q := false) ?_) e9 X9.le (fun h => by cases h) fun _ H10 B10 x10 e10 => ?_
    · rw [isN_opt]
      cases hs : same with
      | false => rfl
      | true =>
        obtain ⟨rfl, hl, Y, hc, hd⟩ := hsame hs
        cases hA : toldAll ⟨m, m, Ts, Os⟩ with
        | none =>
          unfold toldAll at hA
          rw [if_pos ⟨hl.symm, rfl⟩] at hA
          exact absurd (told_none hn3 hA Y hc) hd
        | some Y => rfl
    dsimp only [tNext]
    have X10 := X9.trans x10
    refine s_if ((et_and (q := false) (et_test (ev_notN (ev_var rfl))) fun hp => ?_).cast (q := false) (by rw [Bool.and_false])) e10 X10.le (fun h => by cases h) fun _ H11 B11 x11 e11 => ?_
    · rw [isN_opt] at hp
      cases hA : toldAll ⟨n, m, Ts, Os⟩ with
      | none => rw [hA] at hp; cases hp
      | some Y =>
        obtain ⟨⟨hl, rfl⟩, ht⟩ := told_fits hA
        have sO : Sml n Os := fun T hT => okO.c T hT
        obtain ⟨hc, hd, _⟩ := told_some hn3 ht
        exact et_not (p := true) (et_B (ev_call (ea_cons (ev_var rfl) (ea_cons (ev_var rfl) (ea_cons (ev_var (d := tabD n Y) rfl) ea_nil))) (spD_v (⟨n, Ts, Os, Y⟩ : IcA) (IcOk.mk okT.sz okT.ln hl hc ((rank_det hn3).mpr hd) (told_bits hn3 sT sO ht) sT sO))))
    dsimp only [tNext]
    have X11 := X10.trans x11
    have w11 := ((w8.ext x9).ext x10).ext x11
    have b11 : Evl.Ex B2 B11 := ((((((b3.trans x4.bb).trans kp5.bb).trans kp6.bb).trans (x7.bb.trans x8.bb)).trans x9.bb).trans x10.bb).trans x11.bb
    refine s_if (et_and (et_B (ev_var rfl)) fun _ => et_test (ev_isN (ev_var rfl))) e11 X11.le (fun hb H12 B12 x12 e12 => ?_) fun _ H12 B12 x12 e12 => ?_
    · rw [Bool.and_eq_true, isN_opt] at hb
      obtain ⟨hl, rfl⟩ := hfb.mp hb.1
      have sO : Sml n Os := fun T hT => okO.c T hT
      have ht : told n Ts Os = none := by
        have := hb.2
        unfold toldAll at this
        rw [if_pos ⟨hl, rfl⟩] at this
        exact Option.isNone_iff_eq_none.mp this
      have X12 := X11.trans x12
      refine s_asg (t := .dat (tabsD true n (chgsL n Ts Os))) (ev_call (ea_cons (ev_var rfl) (ea_cons (ev_var rfl) ea_nil)) (spD_v (⟨n, Ts, Os⟩ : TsA) ⟨okT.sz.2, okT.ln.1, okT.ln.2, hl, (nullL_fine (nn9 hn3) (cond_bits sT sO)).1⟩)) e12 X12.le fun σ13 H13 B13 x13 e13 => ?_
      refine s_if ((et_and (q := false) (et_test (ev_lt ((ev_cb (ea_cons (ev_var rfl) ea_nil) (cv_len (k := true) (ds := (chgsL n Ts Os).map (tabD n)))).cast (b := .int ((chgsL n Ts Os).length : Int)) (by rw [List.length_map])) ev_int)) fun hlt => ?_).cast (q := false) (by rw [Bool.and_false])) e13 (X12.trans x13).le (fun h => by cases h) fun _ H14 B14 x14 e14 => ?_
      · have hlt := of_decide_eq_true hlt
        exact et_B (ev_call (ea_cons (ev_var rfl) (ea_cons (ev_size (ev_var rfl) okT.ln.1) ea_nil)) (spD_v (⟨n, chgsL n Ts Os⟩ : SrA) ⟨okT.sz.1, okT.sz.2, by dsimp only; omega, chgsL_bits hn3 sT sO, none_regular hn3 ht⟩))
      · dsimp only [tNext]
        refine ⟨B14, e14.le ?_, (X12.trans x13).trans x14, (b11.trans x12.bb).trans (x13.bb.trans x14.bb), (((w11.ext x12).ext x13).ext x14).mono (by omega)⟩
        exact ⟨rfl, trivial, trivial, trivial, trivial, trivial, trivial, trivial, trivial⟩
    · dsimp only [tNext]
      refine ⟨B12, e12.le ?_, X11.trans x12, b11.trans x12.bb, (w11.ext x12).mono (by omega)⟩
      exact ⟨rfl, trivial, trivial, trivial, trivial, trivial, trivial, trivial, trivial⟩
  · dsimp only at e3 ⊢
    exact s_ret ev_bl e3 X3.le fun u H5 B5 x5 r5 => k u _ H5 B5 rfl (X3.trans x5) ((w3.ext x5).mono (by show M + 6 * 184 ≤ _; omega)) (ok_dat r5)
end
end At
-- V34
namespace At
open PySem PySem.Spec PyProof.Rows L2 Wk La
abbrev st_law_well : Stmt := topS 47
abbrev N_law_well : List Str := ["_law_script", "_law_spot", "_law_state", "_law_cell", "_law_own"]
theorem sc_law_well : FnScope N_law_well ["_law_script", "_law_spot"] (defScope st_law_well) := ⟨rfl, rfl, rfl, by decide +kernel, rfl, by decide +kernel, by decide +kernel⟩
abbrev st_law : Stmt := topS 72
abbrev N_law : List Str := ["_law_script", "_law_spot"]
theorem sc_law : FnScope N_law ["_law_script"] (defScope st_law) := ⟨rfl, rfl, rfl, by decide +kernel, rfl, by decide +kernel, by decide +kernel⟩
def mnI (a : Int) : Int := if (3 : Int) < a then 3 else a
def mxI (a : Int) : Int := if a > 2 then a else 2
theorem mxn {a : Int} (h : 0 ≤ a) : 0 ≤ mxI (mnI a) ∧ mxI (mnI a) ≤ 3 := by
  have h1 : 0 ≤ mnI a ∧ mnI a ≤ 3 := by
    unfold mnI
    split <;> omega
  unfold mxI
  split <;> omega
def intOf : D → Int
  | .int x => x
  | _ => 0
theorem cutD_mem {ds : List D} {lo hi : Option Int} {d : D} (h : d ∈ Wk.cutD ds lo hi) : d ∈ ds := by
  unfold Wk.cutD at h
  exact List.mem_of_mem_drop (List.mem_of_mem_take h)
theorem cutD_len {ds : List D} {lo hi : Option Int} : (Wk.cutD ds lo hi).length ≤ ds.length := by
  unfold Wk.cutD
  rw [List.length_take, List.length_drop]
  omega
section
variable {P : Program} {w : World} {K : PySem.W.Frag} {mg : Str → Option Value} {base : Heap} (bi : Bi mg)
def spLWell (K : PySem.W.Frag) : Sp := fun vs H Q _ => ∃ (ns : List Int) (spot : Nat) (B : Hp), Evl.Ex B H ∧ DpAll K B vs [.list (ns.map .int), .int (spot : Int)] ∧ spot < 3 ∧ ns.length ≤ 1000 ∧ ∀ p H' B', H p = none → Ext B H B' H' → Well K p 0 B' H' → Q (.ref p) H'
include bi in
theorem ok_law_well {f : Addr} {fd : FuncData} (F : L2.Fun K "_law_well" "_law_well" st_law_well f fd) : FnOk P w K mg base CX0 1 f fd ["_law_script", "_law_spot"] (spLWell K) := by
  refine F.ok sc_law_well (fun vs H Q E h => ?_) (fun cdv A outer s H vs Q E hr h => ⟨_, (pss_cons (ps_set (i := 2) sc_law_well.nd rfl (by first | exact Or.inl rfl | exact Or.inr rfl) (pe_op op_add pe_int (pe_op op_mulW pe_int (pv 1))))
      (pss_cons (ps_for PassesOwn.never (by rfl) (pi_sq (pe_op op_cat (pe_slice (r := rSlB K) sl_any (pv 0) po_none (po_some pe_int)) (pe_slice (r := rSlB K) sl_any (pv 0) (po_some (pv 1)) (po_some (pe_op op_add (pv 1) pe_int))))) (pg_name (i := 3) sc_law_well.nd rfl (by first | exact Or.inl rfl | exact Or.inr rfl)) (pss_one (ps_set (i := 2) sc_law_well.nd rfl (by first | exact Or.inl rfl | exact Or.inr rfl) (pe_op op_modN (pe_callTy call_int1 (by rfl) bi.int (by decide +kernel) (pa_cons (pe_op op_add (pe_op op_add (pe_op op_mulW (pv 2) pe_int) (pv 3)) pe_int) pa_nil)) pe_int))))
      (pss_cons (ps_set (i := 4) sc_law_well.nd rfl (by first | exact Or.inl rfl | exact Or.inr rfl) (pe_ifExp (pt_cmpR op_lt (pv 1) (pe_callB (r := rLenSq K) call_len_seq (by rfl) bi.len (by decide +kernel) (pa_cons (pv 0) pa_nil)) (nomark _)) (pe_ix (r := rIx K) ix_seq (pv 0) (pv 1) (fun _ _ => rfl)) pe_int))
      (pss_one (ps_ret (pe_lst (pa_cons (pv 2) (pa_cons pe_int (pa_cons (pe_ifExp (pt_cmpR op_ge (pe_callB call_abs (by rfl) bi.abs (by decide +kernel) (pa_cons (pv 4) pa_nil)) (pe_op op_pow pe_int pe_int) (nomark _)) (pe_callB call_abs (by rfl) bi.abs (by decide +kernel) (pa_cons (pv 4) pa_nil)) pe_int) pa_nil))))))))), ?_⟩)
  · obtain ⟨ns, spot, B, _, r, _⟩ := h
    rw [dps_len r]
    rfl
  obtain ⟨ns, spot, B, eb, r, hs, hl, k⟩ := h
  have e := env_start (N := N_law_well) r (show 2 ≤ 5 by decide)
  have m9 : ∀ {x y : Int}, x.natAbs < 2 ^ 60 → y.natAbs < 2 ^ 60 → CMulW x y := fun hx hy => mul9 (Nat.lt_of_lt_of_le hx (Nat.pow_le_pow_right (by decide) (by omega))) (Nat.lt_of_lt_of_le hy (Nat.pow_le_pow_right (by decide) (by omega)))
  refine s_asg (ev_add ev_int (ev_mul ev_int (ev_var rfl) (m9 (by decide) (by omega)))) e eb fun σ1 H1 B1 x1 e1 => ?_
  let L : List D := Wk.cutD (ns.map .int) none (some 4) ++ Wk.cutD (ns.map .int) (some (spot : Int)) (some ((spot : Int) + 1))
  have hL : ∀ d ∈ L, ∃ x : Int, d = .int x := fun d hd => by
    have : d ∈ ns.map PyData.int := by
      rcases List.mem_append.mp hd with h | h
      · exact cutD_mem h
      · exact cutD_mem h
    obtain ⟨x, _, rfl⟩ := List.mem_map.mp this
    exact ⟨x, rfl⟩
  have c1 : (Wk.cutD (ns.map PyData.int) none (some 4)).length ≤ 1000 := Nat.le_trans cutD_len (by rw [List.length_map]; exact hl)
  have c2 : (Wk.cutD (ns.map PyData.int) (some (spot : Int)) (some ((spot : Int) + 1))).length ≤ 1000 := Nat.le_trans cutD_len (by rw [List.length_map]; exact hl)
  let G0 : Gam := [.dat (.list (ns.map .int)), .dat (.int (spot : Int)), .no, .no, .no]
  refine s_forS (n := L.length) (B0 := B) (H0 := H) (Gi := fun _ => G0) (Φ := fun _ i σ' B' H' => ∃ a : Int, EntOk K B' σ'[2]? (.dat (.int a)) ∧ 0 ≤ a ∧ a < 2 ^ 40) (w_sq (k := true) (item := fun i => .int (intOf (L.getD i .none))) ((en_cat (en_slice (ev_var rfl) eo_none (eo_some ev_int)).liv (en_slice (ev_var rfl) (eo_some (ev_var rfl)) (eo_some (ev_add (ev_var rfl) ev_int))).liv (by omega)).dat) fun i hi => ?_) e1 x1 (fun B2 H2 x2 => ⟨⟨rfl, rfl, trivial, trivial, trivial, trivial⟩, _, env_ent (e1.mono x2.bb) rfl, by omega, by omega⟩) (fun B2 i σ3 σ4 B4 H4 H5 hi X4 b4 ⟨a, ha, a0, a1⟩ x5 ks e4 => ?_) (fun B2 σ4 B4 H4 e4 X4 b4 ⟨a, ha, a0, a1⟩ => ?_)
  · have hm : L.getD i .none ∈ L := by
      rw [List.getD_eq_getElem?_getD, List.getElem?_eq_getElem hi]
      exact List.getElem_mem hi
    obtain ⟨x, ex⟩ := hL _ hm
    show L[i]? = some (.int (intOf (L.getD i .none)))
    rw [ex]
    rw [List.getD_eq_getElem?_getD, List.getElem?_eq_getElem hi] at ex
    rw [List.getElem?_eq_getElem hi]
    exact congrArg some ex
  · have e5 : Wk.Env K B4 σ4 [.dat (.list (ns.map .int)), .dat (.int (spot : Int)), .dat (.int a), .dat (.int (intOf (L.getD i .none))), .no] := e4.put (i := 2) (by rw [ks 2 (by decide)]; exact ha)
    refine s_asg (ev_fmod (ev_cb (ea_cons (ev_add (ev_add (ev_mul (ev_var rfl) ev_int (m9 (by omega) (by decide))) (ev_var rfl)) ev_int) ea_nil) cv_int) ev_int (by decide)) e5 (X4.trans x5).le fun σ6 H6 B6 x6 e6 => ?_
    refine ⟨B6, e6.le ?_, (X4.trans x5).trans x6, (b4.trans x5.bb).trans x6.bb, _, env_ent e6 rfl, ?_⟩
    · exact ⟨rfl, rfl, trivial, trivial, trivial, trivial⟩
    · rw [Int.fmod_eq_emod_of_nonneg _ (by decide)]
      exact ⟨Int.emod_nonneg _ (by decide), Int.lt_trans (Int.emod_lt_of_pos _ (by decide)) (by decide)⟩
  · dsimp only at e4 ⊢
    have e5 : Wk.Env K B4 σ4 [.dat (.list (ns.map .int)), .dat (.int (spot : Int)), .dat (.int a), .no, .no] := e4.put (i := 2) ha
    let o : Int := ns.getD spot 0
    refine s_asg (t := .dat (.int o)) (ev_if (et_test (ev_lt (ev_var rfl) ((ev_cb (ea_cons (ev_var rfl) ea_nil) (cv_len (k := true) (ds := ns.map .int))).cast (b := .int (ns.length : Int)) (by rw [List.length_map])))) (fun hb => ?_) fun hb => ?_) e5 X4.le fun σ6 H6 B6 x6 e6 => ?_
    · have hb := of_decide_eq_true hb
      have hb : spot < ns.length := by omega
      refine ev_ix (k := true) (ev_var rfl) (ev_var rfl) rfl ?_
      show (ns.map PyData.int)[spot]? = some (.int (ns.getD spot 0))
      rw [List.getElem?_map, List.getD_eq_getElem?_getD, List.getElem?_eq_getElem hb]
      rfl
    · have hb := of_decide_eq_false hb
      have hb : ¬ spot < ns.length := by omega
      refine ev_int.cast ?_
      show PyData.int 0 = .int (ns.getD spot 0)
      rw [List.getD_eq_getElem?_getD, List.getElem?_eq_none (by omega)]
      rfl
    · have X6 := X4.trans x6
      let c : Int := if decide ((10 : Int) ^ (18 : Int).toNat ≤ (o.natAbs : Int)) = true then (o.natAbs : Int) else 0
      refine s_retN (en_lst (ds := [.int a, .int 0, .int c]) (ea_cons (ev_var rfl) (ea_cons ev_int (ea_cons (ev_if (et_test (ev_ge (ev_cb (ea_cons (ev_var rfl) ea_nil) cv_abs) (ev_pow ev_int ev_int ⟨by decide, by decide, by decide⟩))) (fun hb => (ev_cb (ea_cons (ev_var rfl) ea_nil) cv_abs).cast (b := .int c) (by show _ = PyData.int (if _ then _ else _); rw [if_pos hb])) fun hb => ev_int.cast (b := .int c) (by show _ = PyData.int (if _ then _ else _); rw [if_neg (by rw [hb]; decide)])) ea_nil))) (by simp)) e6 X6.le fun p xs H7 B7 hp x7 h7 b7 r7 => k p H7 B7 (Evl.fresh_back X6.ex hp) (X6.trans x7) ⟨a, 0, c, ⟨b7, xs, h7, r7⟩, a0, a1, by omega, by omega⟩
theorem ev_right {G : Gam} {tw ts : TE} {ns : List Int} {spot : Nat} (h : ED K tw G (.list (ns.map .int))) (hi : ED K ts G (.int (spot : Int))) (hs : spot < 3) (hl : ns.length ≤ 1000) : ED K (tCall (spLRight K) [] E0 (tCons (tCall (spLWell K) [] E0 (tCons tw (tCons ts tNil))) tNil)) G (.bool true) := fun σ B H e eb Q k => by
  show tCall (spLWell K) [] E0 (tCons tw (tCons ts tNil)) σ H fun w H1 => spLRight K [w] H1 Q E0
  refine (ea_cons h (ea_cons hi ea_nil)) σ B H e eb _ fun vs H1 B1 x1 r1 => ?_
  show spLWell K (vs ++ []) H1 _ E0
  rw [List.append_nil]
  refine ⟨ns, spot, B1, x1.le, r1, hs, hl, fun p H2 B2 hp x2 wl => ⟨(), p, 0, B2, .cons rfl .nil, x2.le, wl, by omega, trivial, fun v t H3 B3 et Y w3 ok => ?_⟩⟩
  subst et
  exact k v H3 B3 (x1.trans (x2.over (fun a ha => by rw [List.mem_singleton.mp ha]; exact hp) Y)) ok
abbrev spLaw (K : PySem.W.Frag) : Sp := spD K (fun ns : List Int => [.list (ns.map .int)]) (fun ns => ns.length ≤ 1000) fun _ => .bool true
include bi in
theorem ok_law {f : Addr} {fd : FuncData} (F : L2.Fun K "law" "law" st_law f fd) (c_law_right : Wk.Cal P w K mg base 11 "_law_right" (spLRight K)) (c_law_well : Wk.Cal P w K mg base 1 "_law_well" (spLWell K)) : FnOk P w K mg base CX0 12 f fd ["_law_script"] (spLaw K) := by
  refine okD F sc_law (fun _ => rfl) (by decide) fun ns cdv A outer s H σ Q E B hr hl eb e k => ⟨_, (pss_one (ps_ret (pe_callB (r := rAll K) (cr_all (by rfl)) (by rfl) bi.all (by decide +kernel) (pa_cons (pe_lc (own := [("_law_spot", 1)]) (wi := _) (g := gName 1) (by rfl) sc_law.nd (pi_range1 (by rfl) bi.range (pa_cons (pe_callB (call_max2 (by rfl)) (by rfl) bi.max (by decide +kernel) (pa_cons pe_int (pa_cons (pe_callB (call_min2 (by rfl)) (by rfl) bi.min (by decide +kernel) (pa_cons (pe_callB (r := rLenSq K) call_len_seq (by rfl) bi.len (by decide +kernel) (pa_cons (pv 0) pa_nil)) (pa_cons pe_int pa_nil))) pa_nil))) pa_nil)) (blkOk_by (N := N_law) (sc := (defScope st_law)) (by decide +kernel)) (fun _ _ _ _ _ => (pg_name (i := 1) sc_law.nd rfl (by first | exact Or.inl rfl | exact Or.inr rfl))) (fun _ _ _ _ _ => pts_nil) (fun _ _ _ _ _ => (pe_cal c_law_right hr (by decide) (by rfl) (pa_cons (pe_cal c_law_well hr (by decide) (by rfl) (pa_cons (pv 0) (pa_cons (pv 1) pa_nil))) pa_nil)))) pa_nil)))), ?_⟩
  let m : Int := mxI (mnI (ns.length : Int))
  have hm : 0 ≤ m ∧ m ≤ 3 := mxn (by omega)
  refine s_ret ((ev_cb (ea_cons ((en_lc (n := m.toNat) (p := fun _ => true) (f := fun _ => .bool true) (w_rng1 (ea_cons ((ev_cb (ea_cons ev_int (ea_cons (ev_cb (ea_cons ((ev_cb (ea_cons (ev_var rfl) ea_nil) (cv_len (k := true) (ds := ns.map .int))).cast (b := .int (ns.length : Int)) (by rw [List.length_map])) (ea_cons ev_int ea_nil)) cv_min2) ea_nil)) cv_max2).cast (b := .int m) rfl) ea_nil) ⟨by omega, by omega⟩) (by omega) (by decide) (fun _ _ => et_yes) (fun i hi _ => ev_right (ev_var rfl) (ev_var rfl) (by omega) hl)).dat.cast (b := .list (((List.range m.toNat).map fun _ => true).map .bool)) (by rw [picked_all, List.map_map]; rfl)) ea_nil) cv_all).cast ?_) e eb fun u H5 B5 x5 r5 => k u H5 B5 x5 r5
  simp
end
end At
-- V35
namespace Hd
open PySem PySem.Spec PyProof.Rows L2
abbrev R : PySem.W.OpenRow := PySem.W.OpenLaw.row PySem.Challenge.rw_alltriangular_k34_whole_lots_alike
abbrev qv : Program := PySem.W.view R.prog [72]
def n1 : List Str := ["_wall", "DIGITS", "is_integer", "are_integers", "written_integer", "shared", "folded", "lead_of", "plain", "without", "left_over", "with_row", "reduced", "nulls", "is_regular", "WrongValue", "InvalidText", "NotLot", "InvalidTables", "MOST_SIZE", "MOST_TABLES", "MOST_NUMBER", "is_table", "wrong_table", "Lot", "lot_lines", "text_row", "text_lot", "check_lot", "sums_for"]
def n2 : List Str := ["changes_between", "summed", "added", "determinant_of", "raised", "put_into", "numbers_for", "regular_sum", "change_between", "alike", "_law_well", "_law_draw", "_law_pick", "_law_times", "_law_unit", "_law_shared", "_law_lead", "_law_plain", "_law_struck", "_law_reduced", "_law_nulls", "_law_flat", "_law_folded", "_law_small", "_law_table", "_law_step", "_law_shift", "_law_tables", "_law_conditions"]
def n3 : List Str := ["_law_changes", "_law_rank", "_law_some_regular", "_law_is_change", "_law_mate", "_law_right"]
def names : List Str := n1 ++ (n2 ++ n3)
def dfn (x : Str) (i : Nat) : He.DefD := ⟨(x, none), x, x, defArgs (At.topS i), defBody (At.topS i), defScope (At.topS i), [], []⟩
def fn1 : List He.DefD := [dfn "is_integer" 3, dfn "are_integers" 4, dfn "shared" 6, dfn "folded" 8, dfn "lead_of" 9, dfn "plain" 10, dfn "without" 11, dfn "left_over" 12, dfn "with_row" 13, dfn "reduced" 14, dfn "nulls" 15, dfn "is_regular" 16, dfn "is_table" 26, dfn "wrong_table" 27, dfn "check_lot" 32, dfn "sums_for" 34, dfn "changes_between" 36, dfn "summed" 37, dfn "added" 38, dfn "determinant_of" 39, dfn "raised" 40, dfn "put_into" 41, dfn "numbers_for" 42, dfn "regular_sum" 43, dfn "change_between" 44, dfn "alike" 45]
def fn2 : List He.DefD := [dfn "_law_well" 47, dfn "_law_draw" 48, dfn "_law_pick" 49, dfn "_law_times" 50, dfn "_law_unit" 51, dfn "_law_shared" 52, dfn "_law_lead" 53, dfn "_law_plain" 54, dfn "_law_struck" 55, dfn "_law_reduced" 56, dfn "_law_nulls" 57, dfn "_law_flat" 58, dfn "_law_folded" 59, dfn "_law_small" 60, dfn "_law_table" 61, dfn "_law_step" 62, dfn "_law_shift" 63, dfn "_law_tables" 64, dfn "_law_conditions" 65, dfn "_law_changes" 66, dfn "_law_rank" 67, dfn "_law_some_regular" 68, dfn "_law_is_change" 69, dfn "_law_mate" 70, dfn "_law_right" 71, dfn "law" 72]
def fn3 : List He.DefD := [⟨("Lot", some "__init__"), "__init__", "Lot.__init__", defArgs At.st_init, defBody At.st_init, defScope At.st_init, [], []⟩]
def fn : List He.DefD := fn1 ++ (fn2 ++ fn3)
def fa1 : List He.Fa := [.glo "is_integer", .glo "are_integers", .glo "shared", .glo "folded", .glo "lead_of", .glo "plain", .glo "without", .glo "left_over", .glo "with_row", .glo "reduced", .glo "nulls", .glo "is_regular", .glo "is_table", .glo "wrong_table", .glo "check_lot", .glo "sums_for", .glo "changes_between", .glo "summed", .glo "added", .glo "determinant_of", .glo "raised", .glo "put_into", .glo "numbers_for", .glo "regular_sum", .glo "change_between", .glo "alike"]
def fa2 : List He.Fa := [.glo "_law_well", .glo "_law_draw", .glo "_law_pick", .glo "_law_times", .glo "_law_unit", .glo "_law_shared", .glo "_law_lead", .glo "_law_plain", .glo "_law_struck", .glo "_law_reduced", .glo "_law_nulls", .glo "_law_flat", .glo "_law_folded", .glo "_law_small", .glo "_law_table", .glo "_law_step", .glo "_law_shift", .glo "_law_tables", .glo "_law_conditions", .glo "_law_changes", .glo "_law_rank", .glo "_law_some_regular", .glo "_law_is_change", .glo "_law_mate", .glo "_law_right", .glo "law"]
def fa3 : List He.Fa := [.free "abs", .free "len", .free "sum", .free "max", .free "min", .free "all", .free "tuple", .free "list", .free "int", .free "range", .free "zip", .free "enumerate", .free "sorted", .free "isinstance", .free "divmod", .free "bool"]
def fa4 : List He.Fa := [.glo "Lot", .mkr "Lot", .int "MOST_SIZE" 4, .int "MOST_TABLES" 3, .int "MOST_NUMBER" 1000000]
def fa : List He.Fa := fa1 ++ (fa2 ++ (fa3 ++ fa4))
def clA (K : PySem.W.Frag) : Addr := He.ga K "Lot"
def ppA (K : PySem.W.Frag) : Addr := He.ma K (clA K) "tables"
def slA (K : PySem.W.Frag) : Addr := He.ma K (clA K) "own_tables"
def gtA (K : PySem.W.Frag) : Addr := match PySem.W.recIn K (ppA K) "property" with
  | some (.ref g :: _) => g
  | _ => 0
def propB (K : PySem.W.Frag) : Bool := match PySem.W.recIn K (ppA K) "property" with
  | some (.ref _ :: _) => true
  | _ => false
def getB (K : PySem.W.Frag) : Bool := match K.lookup (gtA K) with
  | some ⟨_, _, .func fd, _⟩ => PySem.W.codeIn K fd.code "Lot.tables" && (He.dflB K fd.defaults [] && He.kwdB K fd.kwdefaults [])
  | _ => false
def exs (K : PySem.W.Frag) : List Bool := [
  PySem.W.plainGet K (clA K) Str.empty,
  PySem.W.isClsIn K (clA K),
  PySem.W.plainOver K (clA K),
  He.eqO (PySem.W.findIn K (.ref (clA K)) "__setattr__") (some (some (.builtin "object.__setattr__"))),
  He.eqO (PySem.W.findIn K (.ref (clA K)) "__class__") (some (some (.builtin "object.__class__"))),
  He.eqO (PySem.W.specialIn K (.builtin "object.__class__") "__get__") (some (some (.builtin "getset_descriptor.__get__"))),
  decide (PySem.W.takesIn K (.builtin "object.__class__") = some true),
  decide (PySem.W.mroIn K (clA K) (.type "object") = some true),
  He.eqO (PySem.W.findIn K (.ref (clA K)) "own_tables") (some (some (.ref (slA K)))),
  He.eqO (PySem.W.specialIn K (.ref (slA K)) "__get__") (some (some (.builtin "member_descriptor.__get__"))),
  decide (PySem.W.takesIn K (.ref (slA K)) = some true),
  decide (PySem.W.typeIn K (.ref (slA K)) = some (.type "member_descriptor")),
  decide (PySem.W.slotIn K (slA K) (clA K) = some 0),
  decide (PySem.W.kitOne K (.ref (clA K)) (.ref (clA K)) = some true),
  He.eqO (PySem.W.findIn K (.ref (clA K)) "tables") (some (some (.ref (ppA K)))),
  He.eqO (PySem.W.specialIn K (.ref (ppA K)) "__get__") (some (some (.builtin "property.__get__"))),
  decide (PySem.W.takesIn K (.ref (ppA K)) = some true),
  propB K,
  PySem.W.keepIn K (.ref (gtA K)),
  getB K]
def fnWA (K : PySem.W.Frag) (a : Addr) : He.FnW := match K.lookup a with
  | some ⟨_, _, .func fd, _⟩ => some (fd.name, fd.qualname, fd.params, fd.body, fd.scope, fd.globals, fd.closure, fd.builtins)
  | _ => none
abbrev Al : Type := He.AlD × (Bool × He.FnW)
def obs (K : PySem.W.Frag) : Al := (He.obsD fa fn K, ((exs K).all id, fnWA K (gtA K)))
def val : Al := (He.valD fn, (true, some ("tables", "Lot.tables", defArgs At.st_tabs, .stmts (defBody At.st_tabs), defScope At.st_tabs, mainGlobals, [], builtinsNs)))
def valsOf (g : Addr → Option Obj) (a : Addr) : List Addr := match g a with
  | some o => He.refsO o
  | none => []
def codesOf (g : Addr → Option Obj) : List Addr → List Addr
  | [] => []
  | a :: as => match g a with
    | some ⟨_, _, .func fd, _⟩ => He.refV fd.code ++ codesOf g as
    | some ⟨_, _, .fields vs, _⟩ => vs.toList.flatMap He.refV ++ codesOf g as
    | _ => codesOf g as
def lotsOf (g : Addr → Option Obj) (c : Addr) : List Addr := match g c with
  | some ⟨_, _, .cls cd, _⟩ => (cd.ns :: cd.mro.flatMap He.refV) ++ ((fun l => l ++ ((fun m => m ++ codesOf g m) (codesOf g l))) (valsOf g cd.ns))
  | _ => []
def seen (g : Addr → Option Obj) : List Addr := (fun l => (mainGlobals :: l) ++ (lotsOf g (clA (He.frG g [mainGlobals])) ++ codesOf g l)) (valsOf g mainGlobals)
def hk : PySem.W.Hook where
  α := Al
  obs := fun s => obs (He.frG s.heap.get? (seen s.heap.get?))
  val := fun _ => val
  says := fun _ h => ∃ K : PySem.W.Frag, K.In h ∧ obs K = val
  of := fun _ _ e => ⟨_, He.frG_in, e⟩
  keeps := fun _ _ _ ⟨K, hK, c⟩ k => ⟨K, PySem.W.Frag.In.keeps hK k, c⟩
def ob (s : PySem.W.SharedT) : Al := obs (He.frG (HandSHeadRun.getT s) (seen (HandSHeadRun.getT s)))
theorem ob_eq (s : PySem.W.SharedT) : ob s = hk.obs s.abs := by
  have e : HandSHeadRun.getT s = s.abs.heap.get? := funext (HandSHeadRun.getT_eq s)
  unfold ob
  rw [e]
  rfl
theorem run (w : World) : HandSHeadRun.RunEq R qv hk ob 12000 names w := by
  intro os
  kernel_rfl
end Hd
-- V36
namespace Hd
open PySem PySem.Spec PyProof.Rows L2
def gtV : He.FnW := some ("tables", "Lot.tables", defArgs At.st_tabs, .stmts (defBody At.st_tabs), defScope At.st_tabs, mainGlobals, [], builtinsNs)
theorem fun_of {K : PySem.W.Frag} {x qual : Str} {st : Stmt} {f : Addr} {fd : FuncData} (F : FunD K x qual (defArgs st) (defBody st) (defScope st) [] [] f fd) : L2.Fun K x qual st f fd := by
  obtain ⟨oc, od, dV, kV, doc, pm, an, cdv, ct, osl, e, lk, hcd, hD, hK⟩ := F.ex
  rcases hD with ⟨_, rfl⟩ | ⟨h, _⟩
  · exact ⟨⟨oc, od, kV, doc, pm, an, cdv, ct, osl, e, lk, hcd⟩, F.kp⟩
  · exact absurd rfl h
section
variable {K : PySem.W.Frag}
theorem ex_at (h : (exs K).all id = true) (i : Nat) {b : Bool} (e : (exs K)[i]? = some b) : b = true := List.all_eq_true.mp h b (List.mem_of_getElem? e)
theorem getter (hc : obs K = val) : ∃ fd, L2.Fun K "tables" "Lot.tables" At.st_tabs (gtA K) fd := by
  have h : (exs K).all id = true := congrArg (fun z : Al => z.2.1) hc
  have e : fnWA K (gtA K) = gtV := congrArg (fun z : Al => z.2.2) hc
  have kp := ex_at h 18 rfl
  have c2 : (match K.lookup (gtA K) with
    | some ⟨_, _, .func fd, _⟩ => PySem.W.codeIn K fd.code "Lot.tables" && (He.dflB K fd.defaults [] && He.kwdB K fd.kwdefaults [])
    | _ => false) = true := ex_at h 19 rfl
  unfold fnWA at e
  cases q : K.lookup (gtA K) with
  | none =>
    rw [q] at c2
    cases c2
  | some o =>
    obtain ⟨oc, od, dt, osl⟩ := o
    rw [q] at c2 e
    cases dt with
    | func fd =>
      obtain ⟨n1, n2, n3, n4, n5, n6, n7, n8, n9, n10, n11, n12, n13, n14, n15⟩ := fd
      have e2 : (some (n1, n2, n3, n4, n5, n6, n7, n15) : He.FnW) = gtV := e
      unfold gtV at e2
      simp only [Option.some.injEq, Prod.mk.injEq] at e2
      obtain ⟨h1, h2, h3, h4, h5, h6, h7, h8⟩ := e2
      subst h1 h2 h3 h4 h5 h6 h7 h8
      have c3 : (PySem.W.codeIn K n13 "Lot.tables" && (He.dflB K n8 [] && He.kwdB K n9 [])) = true := c2
      obtain ⟨k1, k2⟩ := He.ba c3
      obtain ⟨k3, k4⟩ := He.ba k2
      exact ⟨_, fun_of ⟨⟨oc, od, n8, n9, n10, n11, n12, n13, n14, osl, rfl, q, k1, He.dflB_ok k3, He.kwdB_ok k4⟩, kp⟩⟩
    | _ => cases c2
theorem lotF {mg : Str → Option Value} (hc : obs K = val) (g : mg "Lot" = some (.ref (clA K))) : At.LotF K mg (clA K) (slA K) (ppA K) (gtA K) 0 := by
  have h : (exs K).all id = true := congrArg (fun z : Al => z.2.1) hc
  refine ⟨⟨ex_at h 0 rfl, ex_at h 1 rfl, ex_at h 2 rfl, He.eqO_ok (ex_at h 3 rfl)⟩, ⟨He.eqO_ok (ex_at h 4 rfl), He.eqO_ok (ex_at h 5 rfl), of_decide_eq_true (ex_at h 6 rfl), of_decide_eq_true (ex_at h 7 rfl)⟩, ⟨He.eqO_ok (ex_at h 8 rfl), He.eqO_ok (ex_at h 9 rfl), of_decide_eq_true (ex_at h 10 rfl), of_decide_eq_true (ex_at h 11 rfl), of_decide_eq_true (ex_at h 12 rfl), by decide⟩,
    of_decide_eq_true (ex_at h 13 rfl), g, He.eqO_ok (ex_at h 14 rfl), He.eqO_ok (ex_at h 15 rfl), of_decide_eq_true (ex_at h 16 rfl), ?_⟩
  have hp : (match PySem.W.recIn K (ppA K) "property" with
    | some (.ref _ :: _) => true
    | _ => false) = true := ex_at h 17 rfl
  unfold gtA
  split at hp
  · rename_i g rest q
    rw [q]
    exact ⟨rest, rfl⟩
  · cases hp
end
theorem facts {P : Program} {w : World} {K : PySem.W.Frag} {h : Heap} {mg : Str → Option Value} {f : Addr} (X : K.In h) (G : h.Ns mainGlobals mg) (hfa : mg ("law" : Str) = some (.ref f)) (hc : obs K = val) :
    ∃ fd : FuncData, (∀ (s : Shared) (v : Value), BindsTo s fd ⟨[v], []⟩ [("_law_script", v)]) ∧ ∀ base : Heap, K.In base → base.Ns mainGlobals mg → FnOk P w K mg base CX0 12 f fd ["_law_script"] (At.spLaw K) := by
  have c : He.SaysD fa fn K := congrArg (fun z : Al => z.1) hc
  obtain ⟨fdL, FL⟩ := c.def_ 51 (d := dfn "law" 72) rfl
  have e := hfa.symm.trans (He.glo_ok X G (c.fact 51 (f := .glo "law") rfl))
  cases e
  have b := FunD.bindsA (ps := ["_law_script"]) FL fun _ _ _ _ _ _ us hl => match us, hl with | [_], _ => rfl
  refine ⟨fdL, fun s v => b s [v] rfl, fun base _ _ => ?_⟩
  have bi : At.Bi mg := ⟨He.free_ok X G (c.fact 52 (f := .free "abs") rfl),
      He.free_ok X G (c.fact 53 (f := .free "len") rfl),
      He.free_ok X G (c.fact 54 (f := .free "sum") rfl),
      He.free_ok X G (c.fact 55 (f := .free "max") rfl),
      He.free_ok X G (c.fact 56 (f := .free "min") rfl),
      He.free_ok X G (c.fact 57 (f := .free "all") rfl),
      He.free_ok X G (c.fact 58 (f := .free "tuple") rfl),
      He.free_ok X G (c.fact 59 (f := .free "list") rfl),
      He.free_ok X G (c.fact 60 (f := .free "int") rfl),
      He.free_ok X G (c.fact 61 (f := .free "range") rfl),
      He.free_ok X G (c.fact 62 (f := .free "zip") rfl),
      He.free_ok X G (c.fact 63 (f := .free "enumerate") rfl),
      He.free_ok X G (c.fact 64 (f := .free "sorted") rfl),
      He.free_ok X G (c.fact 65 (f := .free "isinstance") rfl),
      He.free_ok X G (c.fact 66 (f := .free "divmod") rfl),
      He.free_ok X G (c.fact 67 (f := .free "bool") rfl)⟩
  have lf := lotF hc (He.glo_ok X G (c.fact 68 (f := .glo "Lot") rfl))
  have G4 : ∃ u, mg "MOST_SIZE" = some u ∧ L2.RelV (.int 4) u := by
    obtain ⟨t, h⟩ := He.int_ok X G (c.fact 70 (f := .int "MOST_SIZE" 4) rfl)
    exact ⟨_, h, t, rfl⟩
  have G3 : ∃ u, mg "MOST_TABLES" = some u ∧ L2.RelV (.int 3) u := by
    obtain ⟨t, h⟩ := He.int_ok X G (c.fact 71 (f := .int "MOST_TABLES" 3) rfl)
    exact ⟨_, h, t, rfl⟩
  have G6 : ∃ u, mg "MOST_NUMBER" = some u ∧ L2.RelV (.int 1000000) u := by
    obtain ⟨t, h⟩ := He.int_ok X G (c.fact 72 (f := .int "MOST_NUMBER" 1000000) rfl)
    exact ⟨_, h, t, rfl⟩
  have c_is_integer : Wk.Cal P w K mg base 1 "is_integer" (At.spIsInteger K) := by
    obtain ⟨fd, F0⟩ := c.def_ 0 (d := dfn "is_integer" 3) rfl
    have F : L2.Fun K "is_integer" "is_integer" At.st_is_integer (He.fAd K ("is_integer", none)) fd := fun_of F0
    exact ⟨_, fd, ["value"], At.ok_is_integer bi F, He.glo_ok X G (c.fact 0 (f := .glo "is_integer") rfl), F.kp, L2.Fun.binds F fun _ _ _ _ _ _ us hl => match us, hl with | [_], _ => rfl⟩
  have c_are_integers : Wk.Cal P w K mg base 2 "are_integers" (At.spAreIntegers K) := by
    obtain ⟨fd, F0⟩ := c.def_ 1 (d := dfn "are_integers" 4) rfl
    have F : L2.Fun K "are_integers" "are_integers" At.st_are_integers (He.fAd K ("are_integers", none)) fd := fun_of F0
    exact ⟨_, fd, ["value", "many"], At.ok_are_integers bi F c_is_integer, He.glo_ok X G (c.fact 1 (f := .glo "are_integers") rfl), F.kp, L2.Fun.binds F fun _ _ _ _ _ _ us hl => match us, hl with | [_, _], _ => rfl⟩
  have c_shared : Wk.Cal P w K mg base 1 "shared" (At.spShared K) := by
    obtain ⟨fd, F0⟩ := c.def_ 2 (d := dfn "shared" 6) rfl
    have F : L2.Fun K "shared" "shared" At.st_shared (He.fAd K ("shared", none)) fd := fun_of F0
    exact ⟨_, fd, ["one", "other"], At.ok_shared bi F, He.glo_ok X G (c.fact 2 (f := .glo "shared") rfl), F.kp, L2.Fun.binds F fun _ _ _ _ _ _ us hl => match us, hl with | [_, _], _ => rfl⟩
  have c_folded : Wk.Cal P w K mg base 1 "folded" (At.spFolded K) := by
    obtain ⟨fd, F0⟩ := c.def_ 3 (d := dfn "folded" 8) rfl
    have F : L2.Fun K "folded" "folded" At.st_folded (He.fAd K ("folded", none)) fd := fun_of F0
    exact ⟨_, fd, ["row", "size"], At.ok_folded bi F, He.glo_ok X G (c.fact 3 (f := .glo "folded") rfl), F.kp, L2.Fun.binds F fun _ _ _ _ _ _ us hl => match us, hl with | [_, _], _ => rfl⟩
  have c_lead_of : Wk.Cal P w K mg base 1 "lead_of" (At.spLeadOf K) := by
    obtain ⟨fd, F0⟩ := c.def_ 4 (d := dfn "lead_of" 9) rfl
    have F : L2.Fun K "lead_of" "lead_of" At.st_lead_of (He.fAd K ("lead_of", none)) fd := fun_of F0
    exact ⟨_, fd, ["row"], At.ok_lead_of bi F, He.glo_ok X G (c.fact 4 (f := .glo "lead_of") rfl), F.kp, L2.Fun.binds F fun _ _ _ _ _ _ us hl => match us, hl with | [_], _ => rfl⟩
  have c_plain : Wk.Cal P w K mg base 2 "plain" (At.spPlain K) := by
    obtain ⟨fd, F0⟩ := c.def_ 5 (d := dfn "plain" 10) rfl
    have F : L2.Fun K "plain" "plain" At.st_plain (He.fAd K ("plain", none)) fd := fun_of F0
    exact ⟨_, fd, ["row"], At.ok_plain bi F c_shared c_lead_of, He.glo_ok X G (c.fact 5 (f := .glo "plain") rfl), F.kp, L2.Fun.binds F fun _ _ _ _ _ _ us hl => match us, hl with | [_], _ => rfl⟩
  have c_without : Wk.Cal P w K mg base 3 "without" (At.spWithout K) := by
    obtain ⟨fd, F0⟩ := c.def_ 6 (d := dfn "without" 11) rfl
    have F : L2.Fun K "without" "without" At.st_without (He.fAd K ("without", none)) fd := fun_of F0
    exact ⟨_, fd, ["row", "other", "at"], At.ok_without bi F c_plain, He.glo_ok X G (c.fact 6 (f := .glo "without") rfl), F.kp, L2.Fun.binds F fun _ _ _ _ _ _ us hl => match us, hl with | [_, _, _], _ => rfl⟩
  have c_left_over : Wk.Cal P w K mg base 4 "left_over" (At.spLeftOver K) := by
    obtain ⟨fd, F0⟩ := c.def_ 7 (d := dfn "left_over" 12) rfl
    have F : L2.Fun K "left_over" "left_over" At.st_left_over (He.fAd K ("left_over", none)) fd := fun_of F0
    exact ⟨_, fd, ["row", "basis"], At.ok_left_over bi F c_plain c_lead_of c_without, He.glo_ok X G (c.fact 7 (f := .glo "left_over") rfl), F.kp, L2.Fun.binds F fun _ _ _ _ _ _ us hl => match us, hl with | [_, _], _ => rfl⟩
  have c_with_row : Wk.Cal P w K mg base 5 "with_row" (At.spWithRow K) := by
    obtain ⟨fd, F0⟩ := c.def_ 8 (d := dfn "with_row" 13) rfl
    have F : L2.Fun K "with_row" "with_row" At.st_with_row (He.fAd K ("with_row", none)) fd := fun_of F0
    exact ⟨_, fd, ["basis", "row"], At.ok_with_row bi F c_left_over c_lead_of c_without, He.glo_ok X G (c.fact 8 (f := .glo "with_row") rfl), F.kp, L2.Fun.binds F fun _ _ _ _ _ _ us hl => match us, hl with | [_, _], _ => rfl⟩
  have c_reduced : Wk.Cal P w K mg base 6 "reduced" (At.spReduced K) := by
    obtain ⟨fd, F0⟩ := c.def_ 9 (d := dfn "reduced" 14) rfl
    have F : L2.Fun K "reduced" "reduced" At.st_reduced (He.fAd K ("reduced", none)) fd := fun_of F0
    exact ⟨_, fd, ["rows"], At.ok_reduced bi F c_with_row, He.glo_ok X G (c.fact 9 (f := .glo "reduced") rfl), F.kp, L2.Fun.binds F fun _ _ _ _ _ _ us hl => match us, hl with | [_], _ => rfl⟩
  have c_nulls : Wk.Cal P w K mg base 7 "nulls" (At.spNulls K) := by
    obtain ⟨fd, F0⟩ := c.def_ 10 (d := dfn "nulls" 15) rfl
    have F : L2.Fun K "nulls" "nulls" At.st_nulls (He.fAd K ("nulls", none)) fd := fun_of F0
    exact ⟨_, fd, ["rows", "wide"], At.ok_nulls bi F c_reduced c_lead_of c_shared, He.glo_ok X G (c.fact 10 (f := .glo "nulls") rfl), F.kp, L2.Fun.binds F fun _ _ _ _ _ _ us hl => match us, hl with | [_, _], _ => rfl⟩
  have c_is_regular : Wk.Cal P w K mg base 7 "is_regular" (At.spIsRegular K) := by
    obtain ⟨fd, F0⟩ := c.def_ 11 (d := dfn "is_regular" 16) rfl
    have F : L2.Fun K "is_regular" "is_regular" At.st_is_regular (He.fAd K ("is_regular", none)) fd := fun_of F0
    exact ⟨_, fd, ["table"], At.ok_is_regular bi F c_reduced, He.glo_ok X G (c.fact 11 (f := .glo "is_regular") rfl), F.kp, L2.Fun.binds F fun _ _ _ _ _ _ us hl => match us, hl with | [_], _ => rfl⟩
  have c_is_table : Wk.Cal P w K mg base 3 "is_table" (At.spIsTable K) := by
    obtain ⟨fd, F0⟩ := c.def_ 12 (d := dfn "is_table" 26) rfl
    have F : L2.Fun K "is_table" "is_table" At.st_is_table (He.fAd K ("is_table", none)) fd := fun_of F0
    exact ⟨_, fd, ["value"], At.ok_is_table bi F c_are_integers G4 G6, He.glo_ok X G (c.fact 12 (f := .glo "is_table") rfl), F.kp, L2.Fun.binds F fun _ _ _ _ _ _ us hl => match us, hl with | [_], _ => rfl⟩
  have c_wrong_table : Wk.Cal P w K mg base 4 "wrong_table" (At.spWrongTable K) := by
    obtain ⟨fd, F0⟩ := c.def_ 13 (d := dfn "wrong_table" 27) rfl
    have F : L2.Fun K "wrong_table" "wrong_table" At.st_wrong_table (He.fAd K ("wrong_table", none)) fd := fun_of F0
    exact ⟨_, fd, ["value"], At.ok_wrong_table bi F c_is_table G3, He.glo_ok X G (c.fact 13 (f := .glo "wrong_table") rfl), F.kp, L2.Fun.binds F fun _ _ _ _ _ _ us hl => match us, hl with | [_], _ => rfl⟩
  have c_check_lot : Wk.Cal P w K mg base 1 "check_lot" (At.spCheck K (clA K) 0) := by
    obtain ⟨fd, F0⟩ := c.def_ 14 (d := dfn "check_lot" 32) rfl
    have F : L2.Fun K "check_lot" "check_lot" At.st_check_lot (He.fAd K ("check_lot", none)) fd := fun_of F0
    exact ⟨_, fd, ["value"], At.ok_check_lot bi lf F, He.glo_ok X G (c.fact 14 (f := .glo "check_lot") rfl), F.kp, L2.Fun.binds F fun _ _ _ _ _ _ us hl => match us, hl with | [_], _ => rfl⟩
  have c_sums_for : Wk.Cal P w K mg base 1 "sums_for" (At.spSumsFor K) := by
    obtain ⟨fd, F0⟩ := c.def_ 15 (d := dfn "sums_for" 34) rfl
    have F : L2.Fun K "sums_for" "sums_for" At.st_sums_for (He.fAd K ("sums_for", none)) fd := fun_of F0
    exact ⟨_, fd, ["size", "one", "other"], At.ok_sums_for bi F, He.glo_ok X G (c.fact 15 (f := .glo "sums_for") rfl), F.kp, L2.Fun.binds F fun _ _ _ _ _ _ us hl => match us, hl with | [_, _, _], _ => rfl⟩
  have c_changes_between : Wk.Cal P w K mg base 8 "changes_between" (At.spChangesBetween K) := by
    obtain ⟨fd, F0⟩ := c.def_ 16 (d := dfn "changes_between" 36) rfl
    have F : L2.Fun K "changes_between" "changes_between" At.st_changes_between (He.fAd K ("changes_between", none)) fd := fun_of F0
    exact ⟨_, fd, ["tables", "others"], At.ok_changes_between bi F c_sums_for c_nulls c_folded, He.glo_ok X G (c.fact 16 (f := .glo "changes_between") rfl), F.kp, L2.Fun.binds F fun _ _ _ _ _ _ us hl => match us, hl with | [_, _], _ => rfl⟩
  have c_summed : Wk.Cal P w K mg base 1 "summed" (At.spSummed K) := by
    obtain ⟨fd, F0⟩ := c.def_ 17 (d := dfn "summed" 37) rfl
    have F : L2.Fun K "summed" "summed" At.st_summed (He.fAd K ("summed", none)) fd := fun_of F0
    exact ⟨_, fd, ["tables", "numbers"], At.ok_summed bi F, He.glo_ok X G (c.fact 17 (f := .glo "summed") rfl), F.kp, L2.Fun.binds F fun _ _ _ _ _ _ us hl => match us, hl with | [_, _], _ => rfl⟩
  have c_added : Wk.Cal P w K mg base 1 "added" (At.spAdded K) := by
    obtain ⟨fd, F0⟩ := c.def_ 18 (d := dfn "added" 38) rfl
    have F : L2.Fun K "added" "added" At.st_added (He.fAd K ("added", none)) fd := fun_of F0
    exact ⟨_, fd, ["polynomial", "more", "tables", "at", "k", "sign"], At.ok_added bi F, He.glo_ok X G (c.fact 18 (f := .glo "added") rfl), F.kp, L2.Fun.binds F fun _ _ _ _ _ _ us hl => match us, hl with | [_, _, _, _, _, _], _ => rfl⟩
  have c_determinant_of : Wk.Cal P w K mg base 2 "determinant_of" (At.spDet K) := by
    obtain ⟨fd, F0⟩ := c.def_ 19 (d := dfn "determinant_of" 39) rfl
    have F : L2.Fun K "determinant_of" "determinant_of" At.st_determinant_of (He.fAd K ("determinant_of", none)) fd := fun_of F0
    exact ⟨_, fd, ["tables"], At.ok_determinant_of bi F c_added, He.glo_ok X G (c.fact 19 (f := .glo "determinant_of") rfl), F.kp, L2.Fun.binds F fun _ _ _ _ _ _ us hl => match us, hl with | [_], _ => rfl⟩
  have c_raised : Wk.Cal P w K mg base 1 "raised" (At.spRaised K) := by
    obtain ⟨fd, F0⟩ := c.def_ 20 (d := dfn "raised" 40) rfl
    have F : L2.Fun K "raised" "raised" At.st_raised (He.fAd K ("raised", none)) fd := fun_of F0
    exact ⟨_, fd, ["value", "many"], At.ok_raised bi F, He.glo_ok X G (c.fact 20 (f := .glo "raised") rfl), F.kp, L2.Fun.binds F fun _ _ _ _ _ _ us hl => match us, hl with | [_, _], _ => rfl⟩
  have c_put_into : Wk.Cal P w K mg base 2 "put_into" (At.spPut K) := by
    obtain ⟨fd, F0⟩ := c.def_ 21 (d := dfn "put_into" 41) rfl
    have F : L2.Fun K "put_into" "put_into" At.st_put_into (He.fAd K ("put_into", none)) fd := fun_of F0
    exact ⟨_, fd, ["polynomial", "index", "value"], At.ok_put_into bi F c_raised, He.glo_ok X G (c.fact 21 (f := .glo "put_into") rfl), F.kp, L2.Fun.binds F fun _ _ _ _ _ _ us hl => match us, hl with | [_, _, _], _ => rfl⟩
  have c_numbers_for : Wk.Cal P w K mg base 3 "numbers_for" (At.spNums K) := by
    obtain ⟨fd, F0⟩ := c.def_ 22 (d := dfn "numbers_for" 42) rfl
    have F : L2.Fun K "numbers_for" "numbers_for" At.st_numbers_for (He.fAd K ("numbers_for", none)) fd := fun_of F0
    exact ⟨_, fd, ["polynomial", "many", "size"], At.ok_numbers_for bi F c_put_into, He.glo_ok X G (c.fact 22 (f := .glo "numbers_for") rfl), F.kp, L2.Fun.binds F fun _ _ _ _ _ _ us hl => match us, hl with | [_, _, _], _ => rfl⟩
  have c_regular_sum : Wk.Cal P w K mg base 8 "regular_sum" (At.spRegSum K) := by
    obtain ⟨fd, F0⟩ := c.def_ 23 (d := dfn "regular_sum" 43) rfl
    have F : L2.Fun K "regular_sum" "regular_sum" At.st_regular_sum (He.fAd K ("regular_sum", none)) fd := fun_of F0
    exact ⟨_, fd, ["tables"], At.ok_regular_sum bi F c_raised c_summed c_is_regular c_determinant_of c_numbers_for, He.glo_ok X G (c.fact 23 (f := .glo "regular_sum") rfl), F.kp, L2.Fun.binds F fun _ _ _ _ _ _ us hl => match us, hl with | [_], _ => rfl⟩
  have c_change_between : Wk.Cal P w K mg base 9 "change_between" (At.spChangeBetween K) := by
    obtain ⟨fd, F0⟩ := c.def_ 24 (d := dfn "change_between" 44) rfl
    have F : L2.Fun K "change_between" "change_between" At.st_change_between (He.fAd K ("change_between", none)) fd := fun_of F0
    exact ⟨_, fd, ["tables", "others"], At.ok_change_between bi F c_changes_between c_regular_sum, He.glo_ok X G (c.fact 24 (f := .glo "change_between") rfl), F.kp, L2.Fun.binds F fun _ _ _ _ _ _ us hl => match us, hl with | [_, _], _ => rfl⟩
  have c_law_well : Wk.Cal P w K mg base 1 "_law_well" (At.spLWell K) := by
    obtain ⟨fd, F0⟩ := c.def_ 26 (d := dfn "_law_well" 47) rfl
    have F : L2.Fun K "_law_well" "_law_well" At.st_law_well (He.fAd K ("_law_well", none)) fd := fun_of F0
    exact ⟨_, fd, ["_law_script", "_law_spot"], At.ok_law_well bi F, He.glo_ok X G (c.fact 26 (f := .glo "_law_well") rfl), F.kp, L2.Fun.binds F fun _ _ _ _ _ _ us hl => match us, hl with | [_, _], _ => rfl⟩
  have c_law_draw : Wk.Cal P w K mg base 1 "_law_draw" (At.spLDraw K) := by
    obtain ⟨fd, F0⟩ := c.def_ 27 (d := dfn "_law_draw" 48) rfl
    have F : L2.Fun K "_law_draw" "_law_draw" At.st_law_draw (He.fAd K ("_law_draw", none)) fd := fun_of F0
    exact ⟨_, fd, ["_law_well_here", "_law_many"], At.ok_law_draw bi F, He.glo_ok X G (c.fact 27 (f := .glo "_law_draw") rfl), F.kp, L2.Fun.binds F fun _ _ _ _ _ _ us hl => match us, hl with | [_, _], _ => rfl⟩
  have c_law_pick : Wk.Cal P w K mg base 2 "_law_pick" (At.spLPick K) := by
    obtain ⟨fd, F0⟩ := c.def_ 28 (d := dfn "_law_pick" 49) rfl
    have F : L2.Fun K "_law_pick" "_law_pick" At.st_law_pick (He.fAd K ("_law_pick", none)) fd := fun_of F0
    exact ⟨_, fd, ["_law_well_here", "_law_choices"], At.ok_law_pick bi F c_law_draw, He.glo_ok X G (c.fact 28 (f := .glo "_law_pick") rfl), F.kp, L2.Fun.binds F fun _ _ _ _ _ _ us hl => match us, hl with | [_, _], _ => rfl⟩
  have c_law_times : Wk.Cal P w K mg base 1 "_law_times" (At.spLTimes K) := by
    obtain ⟨fd, F0⟩ := c.def_ 29 (d := dfn "_law_times" 50) rfl
    have F : L2.Fun K "_law_times" "_law_times" At.st_law_times (He.fAd K ("_law_times", none)) fd := fun_of F0
    exact ⟨_, fd, ["_law_one_here", "_law_two"], At.ok_law_times bi F, He.glo_ok X G (c.fact 29 (f := .glo "_law_times") rfl), F.kp, L2.Fun.binds F fun _ _ _ _ _ _ us hl => match us, hl with | [_, _], _ => rfl⟩
  have c_law_unit : Wk.Cal P w K mg base 1 "_law_unit" (At.spLUnit K) := by
    obtain ⟨fd, F0⟩ := c.def_ 30 (d := dfn "_law_unit" 51) rfl
    have F : L2.Fun K "_law_unit" "_law_unit" At.st_law_unit (He.fAd K ("_law_unit", none)) fd := fun_of F0
    exact ⟨_, fd, ["_law_size"], At.ok_law_unit bi F, He.glo_ok X G (c.fact 30 (f := .glo "_law_unit") rfl), F.kp, L2.Fun.binds F fun _ _ _ _ _ _ us hl => match us, hl with | [_], _ => rfl⟩
  have c_law_shared : Wk.Cal P w K mg base 1 "_law_shared" (At.spLShared K) := by
    obtain ⟨fd, F0⟩ := c.def_ 31 (d := dfn "_law_shared" 52) rfl
    have F : L2.Fun K "_law_shared" "_law_shared" At.st_law_shared (He.fAd K ("_law_shared", none)) fd := fun_of F0
    exact ⟨_, fd, ["_law_one_here", "_law_two"], At.ok_law_shared bi F, He.glo_ok X G (c.fact 31 (f := .glo "_law_shared") rfl), F.kp, L2.Fun.binds F fun _ _ _ _ _ _ us hl => match us, hl with | [_, _], _ => rfl⟩
  have c_law_lead : Wk.Cal P w K mg base 1 "_law_lead" (At.spLLead K) := by
    obtain ⟨fd, F0⟩ := c.def_ 32 (d := dfn "_law_lead" 53) rfl
    have F : L2.Fun K "_law_lead" "_law_lead" At.st_law_lead (He.fAd K ("_law_lead", none)) fd := fun_of F0
    exact ⟨_, fd, ["_law_line"], At.ok_law_lead bi F, He.glo_ok X G (c.fact 32 (f := .glo "_law_lead") rfl), F.kp, L2.Fun.binds F fun _ _ _ _ _ _ us hl => match us, hl with | [_], _ => rfl⟩
  have c_law_plain : Wk.Cal P w K mg base 2 "_law_plain" (At.spLPlain K) := by
    obtain ⟨fd, F0⟩ := c.def_ 33 (d := dfn "_law_plain" 54) rfl
    have F : L2.Fun K "_law_plain" "_law_plain" At.st_law_plain (He.fAd K ("_law_plain", none)) fd := fun_of F0
    exact ⟨_, fd, ["_law_line"], At.ok_law_plain bi F c_law_shared c_law_lead, He.glo_ok X G (c.fact 33 (f := .glo "_law_plain") rfl), F.kp, L2.Fun.binds F fun _ _ _ _ _ _ us hl => match us, hl with | [_], _ => rfl⟩
  have c_law_struck : Wk.Cal P w K mg base 1 "_law_struck" (At.spLStruck K) := by
    obtain ⟨fd, F0⟩ := c.def_ 34 (d := dfn "_law_struck" 55) rfl
    have F : L2.Fun K "_law_struck" "_law_struck" At.st_law_struck (He.fAd K ("_law_struck", none)) fd := fun_of F0
    exact ⟨_, fd, ["_law_line", "_law_own", "_law_at"], At.ok_law_struck bi F, He.glo_ok X G (c.fact 34 (f := .glo "_law_struck") rfl), F.kp, L2.Fun.binds F fun _ _ _ _ _ _ us hl => match us, hl with | [_, _, _], _ => rfl⟩
  have c_law_reduced : Wk.Cal P w K mg base 3 "_law_reduced" (At.spLReduced K) := by
    obtain ⟨fd, F0⟩ := c.def_ 35 (d := dfn "_law_reduced" 56) rfl
    have F : L2.Fun K "_law_reduced" "_law_reduced" At.st_law_reduced (He.fAd K ("_law_reduced", none)) fd := fun_of F0
    exact ⟨_, fd, ["_law_lines_here"], At.ok_law_reduced bi F c_law_plain c_law_lead c_law_struck, He.glo_ok X G (c.fact 35 (f := .glo "_law_reduced") rfl), F.kp, L2.Fun.binds F fun _ _ _ _ _ _ us hl => match us, hl with | [_], _ => rfl⟩
  have c_law_nulls : Wk.Cal P w K mg base 4 "_law_nulls" (At.spLNulls K) := by
    obtain ⟨fd, F0⟩ := c.def_ 36 (d := dfn "_law_nulls" 57) rfl
    have F : L2.Fun K "_law_nulls" "_law_nulls" At.st_law_nulls (He.fAd K ("_law_nulls", none)) fd := fun_of F0
    exact ⟨_, fd, ["_law_lines_here", "_law_wide"], At.ok_law_nulls bi F c_law_reduced c_law_lead, He.glo_ok X G (c.fact 36 (f := .glo "_law_nulls") rfl), F.kp, L2.Fun.binds F fun _ _ _ _ _ _ us hl => match us, hl with | [_, _], _ => rfl⟩
  have c_law_flat : Wk.Cal P w K mg base 1 "_law_flat" (At.spLFlat K) := by
    obtain ⟨fd, F0⟩ := c.def_ 37 (d := dfn "_law_flat" 58) rfl
    have F : L2.Fun K "_law_flat" "_law_flat" At.st_law_flat (He.fAd K ("_law_flat", none)) fd := fun_of F0
    exact ⟨_, fd, ["_law_table_here"], At.ok_law_flat bi F, He.glo_ok X G (c.fact 37 (f := .glo "_law_flat") rfl), F.kp, L2.Fun.binds F fun _ _ _ _ _ _ us hl => match us, hl with | [_], _ => rfl⟩
  have c_law_folded : Wk.Cal P w K mg base 1 "_law_folded" (At.spFolded K) := by
    obtain ⟨fd, F0⟩ := c.def_ 38 (d := dfn "_law_folded" 59) rfl
    have F : L2.Fun K "_law_folded" "_law_folded" At.st_law_folded (He.fAd K ("_law_folded", none)) fd := fun_of F0
    exact ⟨_, fd, ["_law_line", "_law_size"], At.ok_law_folded bi F, He.glo_ok X G (c.fact 38 (f := .glo "_law_folded") rfl), F.kp, L2.Fun.binds F fun _ _ _ _ _ _ us hl => match us, hl with | [_, _], _ => rfl⟩
  have c_law_small : Wk.Cal P w K mg base 3 "_law_small" (At.spLSmall K) := by
    obtain ⟨fd, F0⟩ := c.def_ 39 (d := dfn "_law_small" 60) rfl
    have F : L2.Fun K "_law_small" "_law_small" At.st_law_small (He.fAd K ("_law_small", none)) fd := fun_of F0
    exact ⟨_, fd, ["_law_well_here", "_law_wide"], At.ok_law_small bi F c_law_draw c_law_pick, He.glo_ok X G (c.fact 39 (f := .glo "_law_small") rfl), F.kp, L2.Fun.binds F fun _ _ _ _ _ _ us hl => match us, hl with | [_, _], _ => rfl⟩
  have c_law_table : Wk.Cal P w K mg base 4 "_law_table" (At.spLTable K) := by
    obtain ⟨fd, F0⟩ := c.def_ 40 (d := dfn "_law_table" 61) rfl
    have F : L2.Fun K "_law_table" "_law_table" At.st_law_table (He.fAd K ("_law_table", none)) fd := fun_of F0
    exact ⟨_, fd, ["_law_well_here", "_law_size", "_law_way"], At.ok_law_table bi F c_law_small, He.glo_ok X G (c.fact 40 (f := .glo "_law_table") rfl), F.kp, L2.Fun.binds F fun _ _ _ _ _ _ us hl => match us, hl with | [_, _, _], _ => rfl⟩
  have c_law_step : Wk.Cal P w K mg base 1 "_law_step" (At.spLStep K) := by
    obtain ⟨fd, F0⟩ := c.def_ 41 (d := dfn "_law_step" 62) rfl
    have F : L2.Fun K "_law_step" "_law_step" At.st_law_step (He.fAd K ("_law_step", none)) fd := fun_of F0
    exact ⟨_, fd, ["_law_size", "_law_i", "_law_j", "_law_by"], At.ok_law_step bi F, He.glo_ok X G (c.fact 41 (f := .glo "_law_step") rfl), F.kp, L2.Fun.binds F fun _ _ _ _ _ _ us hl => match us, hl with | [_, _, _, _], _ => rfl⟩
  have c_law_shift : Wk.Cal P w K mg base 3 "_law_shift" (At.spLShift K) := by
    obtain ⟨fd, F0⟩ := c.def_ 42 (d := dfn "_law_shift" 63) rfl
    have F : L2.Fun K "_law_shift" "_law_shift" At.st_law_shift (He.fAd K ("_law_shift", none)) fd := fun_of F0
    exact ⟨_, fd, ["_law_well_here", "_law_size"], At.ok_law_shift bi F c_law_unit c_law_draw c_law_pick c_law_times c_law_step, He.glo_ok X G (c.fact 42 (f := .glo "_law_shift") rfl), F.kp, L2.Fun.binds F fun _ _ _ _ _ _ us hl => match us, hl with | [_, _], _ => rfl⟩
  have c_law_tables : Wk.Cal P w K mg base 5 "_law_tables" (At.spLTables K) := by
    obtain ⟨fd, F0⟩ := c.def_ 43 (d := dfn "_law_tables" 64) rfl
    have F : L2.Fun K "_law_tables" "_law_tables" At.st_law_tables (He.fAd K ("_law_tables", none)) fd := fun_of F0
    exact ⟨_, fd, ["_law_well_here", "_law_most"], At.ok_law_tables bi F c_law_draw c_law_pick c_law_table c_law_times c_law_unit c_law_shift c_law_flat, He.glo_ok X G (c.fact 43 (f := .glo "_law_tables") rfl), F.kp, L2.Fun.binds F fun _ _ _ _ _ _ us hl => match us, hl with | [_, _], _ => rfl⟩
  have c_law_conditions : Wk.Cal P w K mg base 1 "_law_conditions" (At.spSumsFor K) := by
    obtain ⟨fd, F0⟩ := c.def_ 44 (d := dfn "_law_conditions" 65) rfl
    have F : L2.Fun K "_law_conditions" "_law_conditions" At.st_law_conditions (He.fAd K ("_law_conditions", none)) fd := fun_of F0
    exact ⟨_, fd, ["_law_size", "_law_one_here", "_law_two"], At.ok_law_conditions bi F, He.glo_ok X G (c.fact 44 (f := .glo "_law_conditions") rfl), F.kp, L2.Fun.binds F fun _ _ _ _ _ _ us hl => match us, hl with | [_, _, _], _ => rfl⟩
  have c_law_changes : Wk.Cal P w K mg base 5 "_law_changes" (At.spLChanges K) := by
    obtain ⟨fd, F0⟩ := c.def_ 45 (d := dfn "_law_changes" 66) rfl
    have F : L2.Fun K "_law_changes" "_law_changes" At.st_law_changes (He.fAd K ("_law_changes", none)) fd := fun_of F0
    exact ⟨_, fd, ["_law_tables_here", "_law_others"], At.ok_law_changes bi F c_law_conditions c_law_nulls c_law_folded, He.glo_ok X G (c.fact 45 (f := .glo "_law_changes") rfl), F.kp, L2.Fun.binds F fun _ _ _ _ _ _ us hl => match us, hl with | [_, _], _ => rfl⟩
  have c_law_rank : Wk.Cal P w K mg base 4 "_law_rank" (At.spLRank K) := by
    obtain ⟨fd, F0⟩ := c.def_ 46 (d := dfn "_law_rank" 67) rfl
    have F : L2.Fun K "_law_rank" "_law_rank" At.st_law_rank (He.fAd K ("_law_rank", none)) fd := fun_of F0
    exact ⟨_, fd, ["_law_table_here"], At.ok_law_rank bi F c_law_reduced, He.glo_ok X G (c.fact 46 (f := .glo "_law_rank") rfl), F.kp, L2.Fun.binds F fun _ _ _ _ _ _ us hl => match us, hl with | [_], _ => rfl⟩
  have c_law_some_regular : Wk.Cal P w K mg base 5 "_law_some_regular" (At.spLSomeReg K) := by
    obtain ⟨fd, F0⟩ := c.def_ 47 (d := dfn "_law_some_regular" 68) rfl
    have F : L2.Fun K "_law_some_regular" "_law_some_regular" At.st_law_some_regular (He.fAd K ("_law_some_regular", none)) fd := fun_of F0
    exact ⟨_, fd, ["_law_some", "_law_size"], At.ok_law_some_regular bi F c_law_rank, He.glo_ok X G (c.fact 47 (f := .glo "_law_some_regular") rfl), F.kp, L2.Fun.binds F fun _ _ _ _ _ _ us hl => match us, hl with | [_, _], _ => rfl⟩
  have c_law_is_change : Wk.Cal P w K mg base 5 "_law_is_change" (At.spLIsChange K) := by
    obtain ⟨fd, F0⟩ := c.def_ 48 (d := dfn "_law_is_change" 69) rfl
    have F : L2.Fun K "_law_is_change" "_law_is_change" At.st_law_is_change (He.fAd K ("_law_is_change", none)) fd := fun_of F0
    exact ⟨_, fd, ["_law_tables_here", "_law_others", "_law_thing"], At.ok_law_is_change bi F c_law_rank c_law_times, He.glo_ok X G (c.fact 48 (f := .glo "_law_is_change") rfl), F.kp, L2.Fun.binds F fun _ _ _ _ _ _ us hl => match us, hl with | [_, _, _], _ => rfl⟩
  have c_law_mate : Wk.Cal P w K mg base 6 "_law_mate" (At.spLMate K) := by
    obtain ⟨fd, F0⟩ := c.def_ 49 (d := dfn "_law_mate" 70) rfl
    have F : L2.Fun K "_law_mate" "_law_mate" At.st_law_mate (He.fAd K ("_law_mate", none)) fd := fun_of F0
    exact ⟨_, fd, ["_law_well_here", "_law_tables_here"], At.ok_law_mate bi F c_law_draw c_law_pick c_law_shift c_law_times c_law_tables, He.glo_ok X G (c.fact 49 (f := .glo "_law_mate") rfl), F.kp, L2.Fun.binds F fun _ _ _ _ _ _ us hl => match us, hl with | [_, _], _ => rfl⟩
  obtain ⟨gfd, GF⟩ := getter hc
  have gk : FnOk P w K mg base CX0 1 (gtA K) gfd ["self"] (At.spTabs K (clA K) 0) := At.ok_tabs lf GF
  have gb : L2.Binds K gfd ["self"] [] := L2.Fun.binds GF fun _ _ _ _ _ _ us hl => match us, hl with | [_], _ => rfl
  obtain ⟨fdA, FA0⟩ := c.def_ 25 (d := dfn "alike" 45) rfl
  have FA : L2.Fun K "alike" "alike" At.st_alike (He.fAd K ("alike", none)) fdA := fun_of FA0
  have okA : FnOk P w K mg base CX0 10 (He.fAd K ("alike", none)) fdA ["lot", "other"] (At.spAlike K (clA K) 0) := At.ok_alike lf FA c_check_lot c_change_between gk gb
  have gA : mg "alike" = some (.ref (He.ga K "alike")) := He.glo_ok X G (c.fact 25 (f := .glo "alike") rfl)
  have c_alike : Wk.Cal P w K mg base 10 "alike" (At.spAlike K (clA K) 0) := ⟨_, fdA, _, okA, gA, FA.kp, L2.Fun.binds FA fun _ _ _ _ _ _ us hl => match us, hl with | [_, _], _ => rfl⟩
  have c_alikeK : Wk.CalK P w K mg base 10 "alike" ["other", "lot"] (At.spAlike K (clA K) 0) := ⟨_, fdA, _, okA, gA, FA.kp, Wk.fun_kb FA fun _ _ _ _ _ _ us ws h1 h2 => match us, ws, h1, h2 with | [], [_, _], _, _ => rfl⟩
  obtain ⟨fdi, FI⟩ := c.def_ 52 (d := ⟨("Lot", some "__init__"), "__init__", "Lot.__init__", defArgs At.st_init, defBody At.st_init, defScope At.st_init, [], []⟩) rfl
  have FI1 : L2.Fun K "__init__" "Lot.__init__" At.st_init (He.fAd K ("Lot", some "__init__")) fdi := fun_of FI
  have Fi : FnOk P w K mg base CX0 5 (He.fAd K ("Lot", some "__init__")) fdi ["self", "tables"] (At.spInit K (clA K) 0) := At.ok_init lf FI1 c_wrong_table
  have bdi : L2.Binds K fdi ["self", "tables"] [] := L2.Fun.binds FI1 fun _ _ _ _ _ _ us hl => match us, hl with | [_, _], _ => rfl
  have mk : Mk K (clA K) (He.fAd K ("Lot", some "__init__")) := He.mkr_ok (c.fact 69 (f := .mkr "Lot") rfl)
  have c_law_right : Wk.Cal P w K mg base 11 "_law_right" (At.spLRight K) := by
    obtain ⟨fd, F0⟩ := c.def_ 50 (d := dfn "_law_right" 71) rfl
    have F : L2.Fun K "_law_right" "_law_right" At.st_law_right (He.fAd K ("_law_right", none)) fd := fun_of F0
    exact ⟨_, fd, ["_law_well_here"], At.ok_law_right bi lf F c_law_tables c_law_mate c_alike c_alikeK mk Fi bdi c_law_is_change c_law_changes c_law_some_regular, He.glo_ok X G (c.fact 50 (f := .glo "_law_right") rfl), F.kp, L2.Fun.binds F fun _ _ _ _ _ _ us hl => match us, hl with | [_], _ => rfl⟩
  have F1 : L2.Fun K "law" "law" At.st_law (He.fAd K ("law", none)) fdL := fun_of FL
  exact At.ok_law bi F1 c_law_right c_law_well
end Hd
open PySem PySem.W PySem.Calls PyProof.Rows
set_option maxRecDepth 100000 in
set_option maxHeartbeats 0 in
theorem PySem.Challenge.cw_alltriangular_k34_whole_lots_alike_holds : PySem.Challenge.rw_alltriangular_k34_whole_lots_alike.Holds := by
  w_on; o_law
  refine HandSHeadRun.head_any (r := OpenLaw.row PySem.Challenge.rw_alltriangular_k34_whole_lots_alike) (q := view (OpenLaw.row PySem.Challenge.rw_alltriangular_k34_whole_lots_alike).prog [72]) (H := Hd.hk) (ob := Hd.ob) (M := 12000) (loose := Hd.names) (d := HandSHeadRun.topDef (OpenLaw.row PySem.Challenge.rw_alltriangular_k34_whole_lots_alike).prog 72) (kwd := []) Hd.ob_eq
    (by kernel_rfl) (fun s => by kernel_rfl) Hd.run (by kernel_rfl) (by kernel_rfl) (by kernel_rfl) (by rfl) (by first | assumption | decide +kernel) (by decide +kernel) ⟨rfl, rfl, rfl, rfl, rfl, by decide +kernel⟩ ?hw ?hc
  case hw => w_witness2
  case hc =>
    refine L2.walk_ofE (l := PySem.Challenge.rw_alltriangular_k34_whole_lots_alike) (n := 63) (k := 12) (x := "_law_script") (CX := L2.CX0) rfl (by decide) (by kernel_rfl) ⟨rfl, by decide, by decide⟩ ?F (fun _ _ _ _ z => z)
    intro w mg fa h Y G hmg0
    obtain ⟨K, KX, c⟩ := Y
    have hmg : mg ("law" : PySem.Str) = some (.ref fa) := by
      have e : (HandSHeadRun.topDef (OpenLaw.row PySem.Challenge.rw_alltriangular_k34_whole_lots_alike).prog 72).name = ("law" : PySem.Str) := by kernel_rfl
      rw [← e]
      exact hmg0
    obtain ⟨fd, hb, hF⟩ := Hd.facts (P := (PySem.Challenge.rw_alltriangular_k34_whole_lots_alike).prog) (w := w) KX G hmg c
    exact ⟨K, fd, At.spLaw K, KX, hb, fun H a ns hl _ hS => ⟨ns, H, Evl.Ex.refl H, .cons (.lst hS (Wk.ints_dps ns)) .nil, Nat.le_trans hl (by decide), fun v H' B' _ r => Wk.dp_bool r⟩, hF⟩
