import PyProof.Rows.All
import Wide.All
import OpenK.AllK
import Wide.FinOn
import HandS.ForMost
import KE.KDictZip
import PyProof.ListNew
import PyProof.FactsSeq
import HandS.IsInst
import PySem.Challenge.RW_untoldprimes_k08_least_primes
set_option Elab.async false
set_option linter.all false
set_option maxRecDepth 100000
set_option maxHeartbeats 4000000
namespace PM
/-! primes, factors -/
def Pr (n : Nat) : Prop := 2 ≤ n ∧ ∀ d, d < n → 2 ≤ d → ¬ d ∣ n
instance (n : Nat) : Decidable (Pr n) := by unfold Pr; infer_instance
def keep (k n : Nat) : Prop := ∀ d, d < k + 1 → 2 ≤ d → d < n → ¬ d ∣ n
instance (k n : Nat) : Decidable (keep k n) := by unfold keep; infer_instance

theorem Pr.two {n : Nat} (h : Pr n) : 2 ≤ n := h.1
theorem Pr.nd {n d : Nat} (h : Pr n) (h2 : 2 ≤ d) (hl : d < n) : ¬ d ∣ n := h.2 d hl h2
theorem Pr.dvd {n d : Nat} (h : Pr n) (hd : d ∣ n) : d = 1 ∨ d = n := by
  have h2 := h.1
  have hle : d ≤ n := Nat.le_of_dvd (by omega) hd
  have h0 : d ≠ 0 := fun e => by subst e; exact absurd (Nat.eq_zero_of_zero_dvd hd) (by omega)
  by_cases h1 : d = 1
  · exact .inl h1
  · by_cases hn : d = n
    · exact .inr hn
    · exact absurd hd (h.nd (by omega) (by omega))
theorem Pr.coprime {p d : Nat} (h : Pr p) (h0 : 0 < d) (hl : d < p) : Nat.Coprime d p := by
  have hg : Nat.gcd d p ∣ p := Nat.gcd_dvd_right d p
  rcases h.dvd hg with e | e
  · exact e
  · have : Nat.gcd d p ≤ d := Nat.le_of_dvd h0 (Nat.gcd_dvd_left d p)
    omega
theorem Pr.coprime_of {p a : Nat} (h : Pr p) (hn : ¬ p ∣ a) : Nat.Coprime p a := by
  have hg : Nat.gcd p a ∣ p := Nat.gcd_dvd_left p a
  rcases h.dvd hg with e | e
  · exact e
  · exact absurd (e ▸ Nat.gcd_dvd_right p a) hn
theorem Pr.euclid {p a b : Nat} (h : Pr p) (hd : p ∣ a * b) : p ∣ a ∨ p ∣ b := by
  by_cases hp : p ∣ a
  · exact .inl hp
  · exact .inr ((h.coprime_of hp).dvd_of_dvd_mul_left hd)
/-- every number from 2 on has a least factor -/
def MF (n d : Nat) : Prop := 2 ≤ d ∧ d ∣ n ∧ ∀ e, 2 ≤ e → e < d → ¬ e ∣ n
theorem MF.pr {n d : Nat} (h : MF n d) : Pr d := ⟨h.1, fun e hl h2 hd => h.2.2 e h2 hl (Nat.dvd_trans hd h.2.1)⟩
theorem MF.uniq {n d e : Nat} (h : MF n d) (k : MF n e) : d = e := by
  rcases Nat.lt_trichotomy d e with q | q | q
  · exact absurd h.2.1 (k.2.2 d h.1 q)
  · exact q
  · exact absurd k.2.1 (h.2.2 e k.1 q)
theorem MF.le {n d e : Nat} (h : MF n d) (h2 : 2 ≤ e) (hd : e ∣ n) : d ≤ e := by
  by_cases q : e < d
  · exact absurd hd (h.2.2 e h2 q)
  · omega
theorem MF.ex {n : Nat} (h : 2 ≤ n) : ∃ d, MF n d := by
  have key : ∀ k, (∀ e, 2 ≤ e → e < n - k → ¬ e ∣ n) → k ≤ n - 2 → ∃ d, MF n d := by
    intro k
    induction k with
    | zero => exact fun hk _ => ⟨n, h, Nat.dvd_refl n, hk⟩
    | succ k ih =>
      intro hk hle
      by_cases hd : (n - (k + 1)) ∣ n
      · exact ⟨n - (k + 1), by omega, hd, hk⟩
      · refine ih (fun e h2 hl => ?_) (by omega)
        by_cases q : e = n - (k + 1)
        · exact q ▸ hd
        · exact hk e h2 (by omega)
  exact key (n - 2) (fun e h2 hl => by omega) (Nat.le_refl _)
theorem MF.of_pr {p : Nat} (h : Pr p) : MF p p := ⟨h.1, Nat.dvd_refl p, fun e h2 hl => h.nd h2 hl⟩
theorem MF.mul {n p a : Nat} (h : MF n a) (hp : Pr p) : MF (n * p) (min a p) := by
  have key : ∀ e, 2 ≤ e → e < a → e < p → ¬ e ∣ n * p := by
    intro e h2 ha hpl hd
    obtain ⟨q, hq⟩ := MF.ex h2
    have hqe : q ≤ e := Nat.le_of_dvd (by omega) hq.2.1
    rcases hq.pr.euclid (Nat.dvd_trans hq.2.1 hd) with z | z
    · exact h.2.2 q hq.1 (by omega) z
    · exact hp.nd hq.1 (by omega) z
  rcases Nat.le_total a p with q | q
  · rw [Nat.min_eq_left q]
    exact ⟨h.1, Nat.dvd_trans h.2.1 (Nat.dvd_mul_right n p), fun e h2 hl => key e h2 hl (by omega)⟩
  · rw [Nat.min_eq_right q]
    exact ⟨hp.1, Nat.dvd_mul_left p n, fun e h2 hl => key e h2 (by omega) hl⟩
/-- no factor to the root: prime -/
theorem pr_of_root {n r : Nat} (h2 : 2 ≤ n) (hr : n < (r + 1) * (r + 1)) (h : ∀ d, 2 ≤ d → d ≤ r → ¬ d ∣ n) : MF n n := by
  obtain ⟨d, hd⟩ := MF.ex h2
  by_cases hn : d = n
  · exact hn ▸ hd
  · exfalso
    obtain ⟨m, hm⟩ := hd.2.1
    have hd2 := hd.1
    have hm2 : 2 ≤ m := by
      match m, hm with
      | 0, hm => omega
      | 1, hm => omega
      | m + 2, _ => omega
    have hle : d ≤ m := hd.le hm2 ⟨d, by rw [hm, Nat.mul_comm]⟩
    have hdr : ¬ d ≤ r := fun q => h d hd2 q hd.2.1
    have h3 : (r + 1) * (r + 1) ≤ d * m := Nat.mul_le_mul (by omega) (by omega)
    omega
theorem pr_of_MF {n : Nat} (h : MF n n) : Pr n := h.pr
theorem pr_of_root' {n r : Nat} (h2 : 2 ≤ n) (hr : n < (r + 1) * (r + 1)) (h : ∀ d, 2 ≤ d → d ≤ r → d < n → ¬ d ∣ n) : Pr n := by
  obtain ⟨d, hd⟩ := MF.ex h2
  by_cases hn : d = n
  · exact hn ▸ hd.pr
  · have hlt : d < n := by
      have := Nat.le_of_dvd (by omega) hd.2.1
      omega
    exfalso
    obtain ⟨m, hm⟩ := hd.2.1
    have hd2 := hd.1
    have hm2 : 2 ≤ m := by
      match m, hm with
      | 0, hm => omega
      | 1, hm => omega
      | m + 2, _ => omega
    have hle : d ≤ m := hd.le hm2 ⟨d, by rw [hm, Nat.mul_comm]⟩
    have hdr : ¬ d ≤ r := fun q => h d hd2 q hlt hd.2.1
    have h3 : (r + 1) * (r + 1) ≤ d * m := Nat.mul_le_mul (by omega) (by omega)
    omega

/-! what is left behind the steps -/
theorem keep_one (n : Nat) : keep 1 n := fun d h1 h2 => by omega
theorem keep_pr {k n : Nat} (h2 : 2 ≤ n) (hk : n < (k + 1) * (k + 1)) : keep k n ↔ Pr n :=
  ⟨fun h => pr_of_root' h2 hk fun d hd hk hl => h d (by omega) hd hl, fun h d _ hd hl => h.nd hd hl⟩
theorem keep_succ {k n : Nat} : keep (k + 1) n ↔ keep k n ∧ ¬ (2 ≤ k + 1 ∧ k + 1 < n ∧ (k + 1) ∣ n) := by
  constructor
  · exact fun h => ⟨fun d h1 h2 h3 => h d (by omega) h2 h3, fun ⟨a, b, c⟩ => h (k + 1) (by omega) a b c⟩
  · rintro ⟨h, hn⟩ d h1 h2 h3 hd
    by_cases e : d = k + 1
    · subst e
      exact hn ⟨h2, h3, hd⟩
    · exact h d (by omega) h2 h3 hd
theorem keep_self {k : Nat} (h2 : 2 ≤ k) : keep (k - 1) k ↔ Pr k :=
  ⟨fun h => ⟨h2, fun d hl hd => h d (by omega) hd hl⟩, fun h d _ hd hl => h.nd hd hl⟩
/-- a composite takes nothing away -/
theorem keep_comp {k n : Nat} (h2 : 2 ≤ k) (hk : ¬ Pr k) : keep k n ↔ keep (k - 1) n := by
  obtain ⟨j, rfl⟩ : ∃ j, k = j + 1 := ⟨k - 1, by omega⟩
  rw [keep_succ, Nat.add_sub_cancel]
  refine ⟨fun h => h.1, fun h => ⟨h, fun ⟨_, hl, hd⟩ => ?_⟩⟩
  obtain ⟨q, hq⟩ := MF.ex h2
  have hle := Nat.le_of_dvd (by omega) hq.2.1
  have hne : q ≠ j + 1 := fun e => hk (e ▸ hq.pr)
  exact h q (by omega) hq.1 (by omega) (Nat.dvd_trans hq.2.1 hd)
/-- what the step of a prime takes away -/
theorem keep_mul {p m : Nat} (hp : Pr p) (hm : 2 ≤ m) : keep (p - 1) (p * m) ↔ p ≤ m ∧ keep (p - 1) m := by
  have h2 := hp.1
  constructor
  · intro h
    have hpm : m < p * m := by
      have : 1 * m < p * m := Nat.mul_lt_mul_of_pos_right (by omega) (by omega)
      omega
    have hle : p ≤ m := by
      by_cases q : p ≤ m
      · exact q
      · exact absurd (Nat.dvd_mul_left m p) (h m (by omega) hm hpm)
    exact ⟨hle, fun d h1 hd hl hdv => h d h1 hd (by omega) (Nat.dvd_trans hdv (Nat.dvd_mul_left m p))⟩
  · rintro ⟨hle, h⟩ d h1 hd hl hdv
    have hc : Nat.Coprime d p := hp.coprime (by omega) (by omega)
    exact h d h1 hd (by omega) (hc.dvd_of_dvd_mul_left hdv)

/-! sums -/
def SS (f : Nat → Int) : Nat → Int
  | 0 => 0
  | v + 1 => SS f v + f (v + 1)
theorem SS_congr {f g : Nat → Int} : ∀ {v : Nat}, (∀ n, 1 ≤ n → n ≤ v → f n = g n) → SS f v = SS g v
  | 0, _ => rfl
  | v + 1, h => by
    show SS f v + f (v + 1) = SS g v + g (v + 1)
    rw [SS_congr (v := v) fun n a b => h n a (by omega), h (v + 1) (by omega) (by omega)]
theorem SS_mul (c : Int) (f : Nat → Int) : ∀ v, SS (fun n => c * f n) v = c * SS f v
  | 0 => by simp [SS]
  | v + 1 => by
    show SS _ v + c * f (v + 1) = c * (SS f v + f (v + 1))
    rw [SS_mul c f v, Int.mul_add]
/-- what is left to v behind the steps of all numbers to k, weighed by g -/
def S (g : Nat → Int) (k v : Nat) : Int := SS (fun n => if 2 ≤ n ∧ keep k n then g n else 0) v
theorem S_succ (g : Nat → Int) (k v : Nat) : S g k (v + 1) = S g k v + if 2 ≤ v + 1 ∧ keep k (v + 1) then g (v + 1) else 0 := rfl
/-- the primes to v, weighed -/
def PS (g : Nat → Int) (v : Nat) : Int := SS (fun n => if Pr n then g n else 0) v
theorem S_PS {g : Nat → Int} {k v : Nat} (h : v < (k + 1) * (k + 1)) : S g k v = PS g v := by
  refine SS_congr fun n _ hn => ?_
  by_cases h2 : 2 ≤ n
  · have e := keep_pr (k := k) h2 (by omega)
    by_cases hp : Pr n
    · rw [if_pos hp, if_pos ⟨h2, e.mpr hp⟩]
    · rw [if_neg hp, if_neg fun z => hp (e.mp z.2)]
  · rw [if_neg fun z => h2 z.1, if_neg fun z => h2 z.1]
theorem S_one (g : Nat → Int) (v : Nat) : S g 1 v = SS (fun n => if 2 ≤ n then g n else 0) v :=
  SS_congr fun n _ _ => by
    by_cases h2 : 2 ≤ n
    · rw [if_pos h2, if_pos ⟨h2, keep_one n⟩]
    · rw [if_neg h2, if_neg fun z => h2 z.1]
theorem S_comp {g : Nat → Int} {k v : Nat} (h2 : 2 ≤ k) (hk : ¬ Pr k) : S g k v = S g (k - 1) v :=
  SS_congr fun n _ _ => by
    by_cases h : 2 ≤ n ∧ keep (k - 1) n
    · rw [if_pos h, if_pos ⟨h.1, (keep_comp h2 hk).mpr h.2⟩]
    · rw [if_neg h, if_neg fun z => h ⟨z.1, (keep_comp h2 hk).mp z.2⟩]
/-- the amount that a prime's step takes away: by the numbers p * m -/
def lost (g : Nat → Int) (p : Nat) (m : Nat) : Int := if p ≤ m ∧ keep (p - 1) m then g (p * m) else 0
theorem S_step {g : Nat → Int} {p : Nat} (hp : Pr p) : ∀ v, S g p v = S g (p - 1) v - SS (lost g p) (v / p)
  | 0 => by simp [S, SS]
  | v + 1 => by
    have h2 := hp.1
    rw [S_succ, S_succ, S_step hp v]
    by_cases hd : p ∣ v + 1
    · obtain ⟨m, hm⟩ := hd
      have e1 : (v + 1) / p = m := by rw [hm]; exact Nat.mul_div_cancel_left m (by omega)
      have hmp : 0 < m := by
        cases m with
        | zero => omega
        | succ m => omega
      obtain ⟨j, rfl⟩ : ∃ j, m = j + 1 := ⟨m - 1, by omega⟩
      have e2 : v / p = j := by
        have : v = p * j + (p - 1) := by rw [Nat.mul_succ] at hm; omega
        rw [this, Nat.mul_add_div (by omega), Nat.div_eq_of_lt (by omega), Nat.add_zero]
      rw [e1, e2]
      have e4 : SS (lost g p) (j + 1) = SS (lost g p) j + (if p ≤ j + 1 ∧ keep (p - 1) (j + 1) then g (p * (j + 1)) else 0) := rfl
      rw [hm, e4]
      by_cases hj : j = 0
      · subst hj
        rw [if_neg (c := p ≤ 0 + 1 ∧ keep (p - 1) (0 + 1)) fun z => by omega]
        have e3 : p * (0 + 1) = p := by omega
        rw [e3]
        have hk : keep p p ↔ keep (p - 1) p := by
          refine ⟨fun h d a b c => h d (by omega) b c, fun h d a b c => h d (by omega) b c⟩
        by_cases q : keep (p - 1) p
        · rw [if_pos ⟨h2, hk.mpr q⟩, if_pos ⟨h2, q⟩]; omega
        · rw [if_neg fun z => q (hk.mp z.2), if_neg fun z => q z.2]; omega
      · have hm2 : 2 ≤ j + 1 := by omega
        have hlt : p < p * (j + 1) := by
          have : p * 2 ≤ p * (j + 1) := Nat.mul_le_mul_left p hm2
          omega
        have hn : ¬ (2 ≤ p * (j + 1) ∧ keep p (p * (j + 1))) := fun z => z.2 p (by omega) h2 hlt (Nat.dvd_mul_right p (j + 1))
        rw [if_neg hn]
        have hk := keep_mul hp hm2
        by_cases q : p ≤ j + 1 ∧ keep (p - 1) (j + 1)
        · rw [if_pos q, if_pos ⟨by omega, hk.mpr q⟩]; omega
        · rw [if_neg q, if_neg fun z => q (hk.mp z.2)]; omega
    · have e2 : (v + 1) / p = v / p := by
        rw [Nat.succ_div]
        rw [if_neg hd]; rfl
      rw [e2]
      obtain ⟨j, rfl⟩ : ∃ j, p = j + 1 := ⟨p - 1, by omega⟩
      have hk : keep (j + 1) (v + 1) ↔ keep j (v + 1) := by
        rw [keep_succ]
        exact ⟨fun h => h.1, fun h => ⟨h, fun z => hd z.2.2⟩⟩
      rw [Nat.add_sub_cancel]
      by_cases q : 2 ≤ v + 1 ∧ keep j (v + 1)
      · rw [if_pos q, if_pos ⟨q.1, hk.mpr q.2⟩]; omega
      · rw [if_neg q, if_neg fun z => q ⟨z.1, hk.mp z.2⟩]; omega
theorem lost_small {g : Nat → Int} {p : Nat} : ∀ {m : Nat}, m < p → SS (lost g p) m = 0
  | 0, _ => rfl
  | m + 1, h => by
    show SS (lost g p) m + lost g p (m + 1) = 0
    rw [lost_small (m := m) (by omega)]
    unfold lost
    rw [if_neg fun z => by omega]; rfl
/-- the amount, by a table -/
theorem lost_tab {g g' : Nat → Int} {w : Int} {p : Nat} (hp : Pr p) (hg : ∀ m, 1 ≤ m → keep (p - 1) m → p ≤ m → g (p * m) = w * g' m) : ∀ m, p - 1 ≤ m → SS (lost g p) m = w * (S g' (p - 1) m - S g' (p - 1) (p - 1)) := by
  have h2 := hp.1
  intro m hm
  obtain ⟨j, rfl⟩ : ∃ j, m = (p - 1) + j := ⟨m - (p - 1), by omega⟩
  clear hm
  induction j with
  | zero =>
    rw [lost_small (by omega), Nat.add_zero, Int.sub_self, Int.mul_zero]
  | succ j ih =>
    have e4 : SS (lost g p) (p - 1 + (j + 1)) = SS (lost g p) (p - 1 + j) + (if p ≤ p - 1 + j + 1 ∧ keep (p - 1) (p - 1 + j + 1) then g (p * (p - 1 + j + 1)) else 0) := rfl
    rw [e4, ih, show p - 1 + (j + 1) = p - 1 + j + 1 from rfl, S_succ]
    by_cases q : keep (p - 1) (p - 1 + j + 1)
    · rw [if_pos ⟨by omega, q⟩, if_pos ⟨by omega, q⟩, hg _ (by omega) q (by omega)]
      rw [← Int.mul_add]
      congr 1
      omega
    · rw [if_neg fun z => q z.2, if_neg fun z => q z.2, Int.add_zero, Int.add_zero]
/-- the step of a prime, as the tables do it -/
theorem S_prime {g g' : Nat → Int} {w : Int} {p v : Nat} (hp : Pr p) (hg : ∀ m, 1 ≤ m → keep (p - 1) m → p ≤ m → g (p * m) = w * g' m) :
    S g p v = if p * p ≤ v then S g (p - 1) v - w * (S g' (p - 1) (v / p) - S g' (p - 1) (p - 1)) else S g (p - 1) v := by
  have h2 := hp.1
  rw [S_step hp v]
  by_cases h : p * p ≤ v
  · rw [if_pos h]
    have h1 : p ≤ v / p := (Nat.le_div_iff_mul_le (by omega)).mpr h
    rw [lost_tab hp hg _ (by omega)]
  · rw [if_neg h]
    have h1 : v / p < p := (Nat.div_lt_iff_lt_mul (by omega)).mpr (by omega)
    rw [lost_small h1]; omega
theorem S_at {g : Nat → Int} {p : Nat} (h2 : 2 ≤ p) : S g (p - 1) p = S g (p - 1) (p - 1) + if Pr p then g p else 0 := by
  obtain ⟨j, rfl⟩ : ∃ j, p = j + 1 := ⟨p - 1, by omega⟩
  have hk := keep_self h2
  rw [S_succ]
  congr 1
  by_cases q : Pr (j + 1)
  · rw [if_pos q, if_pos ⟨h2, hk.mpr q⟩]
  · rw [if_neg q, if_neg fun z => q (hk.mp z.2)]
end PM

namespace L2
open PySem PySem.Spec PyProof.Rows
section
variable {X : Cx} {pins : List (Addr × Obj)} {σ : St} {H : Hp} {s : Shared}

/-! ### list(enumerate(xs)) -/
def EnSt (h : Heap) (e it a q : Addr) (i : Nat) : Prop :=
  e ≠ it ∧ h.IsListIter it a i ∧ ((∃ old, IsEnum h e it (i : Int) old) ∨ ∃ old T f oT, PySem.IsEnumHeld h e it (i : Int) old T f ∧ h.get? T = some oT ∧ T ≠ e ∧ T ≠ it ∧ T ≠ q)
theorem same_updX {H : Hp} {p : Addr} {o : HO} (h : H p = none) : Same H (upd H p o) := fun b x e => by
  rw [upd_ne (ne_of_none e h)]
  exact e
theorem enum_turn {A1 : Around} {E : Value → Shared → Prop} {e it a q : Addr} {i : Nat} {xs : List V} {x : V} (I : Inv X pins σ H s) (hf : ∀ b ∈ [e, it], FpOk X pins H b) (st : EnSt s.heap e it a q i) (hq : SqL X.K H a xs) (hx : xs[i]? = some x)
    (hql : q < s.heap.objs.size) :
    wpAny (model X.prog X.w) A1 (pyNext (.ref e)) (fun r s' => ∃ T, r = some (.ref T) ∧ H T = none ∧ T ≠ q ∧ Inv X pins σ (upd H T (.tup [.int (i : Nat), x])) s' ∧ EnSt s'.heap e it a q (i + 1) ∧ (∀ b ∈ [e, it], FpOk X pins (upd H T (.tup [.int (i : Nat), x])) b)) E s := by
  obtain ⟨hne, hit, hE⟩ := st
  obtain ⟨its, rv, p, hz⟩ := I.list hq
  obtain ⟨u, hu, ru⟩ := rv.get hx
  have hil : it < s.heap.objs.size := by obtain ⟨_, q, _⟩ := hit; exact Heap.lt_size q
  have hel : e < s.heap.objs.size := by
    rcases hE with ⟨_, he⟩ | ⟨_, _, _, _, he, _⟩
    · exact Heap.lt_size he
    · exact Heap.lt_size he
  have key : ∀ (h' : Heap) (T' : Addr) (f : Bool) (old : Value), PySem.IsEnumHeld h' e it ((i : Int) + 1) old T' f → (∃ oT, h'.get? T' = some oT) → T' ≠ e → T' ≠ it → T' ≠ q → h'.IsListIter it a (i + 1) →
      h'.get? s.heap.objs.size = some { cls := .type "tuple", data := .seq #[.int i s.toks, u] } →
      (∀ b o, b ≠ e → b ≠ it → s.heap.get? b = some o → h'.get? b = some o) →
      ∃ T, some (Value.ref s.heap.objs.size) = some (.ref T) ∧ H T = none ∧ T ≠ q ∧ Inv X pins σ (upd H T (.tup [.int (i : Nat), x])) { s with heap := h', toks := s.toks + 1 } ∧ EnSt h' e it a q (i + 1) ∧ (∀ b ∈ [e, it], FpOk X pins (upd H T (.tup [.int (i : Nat), x])) b) := by
    intro h' T' f old he' ⟨oT, hT'⟩ n1 n2 n3 hit' hT hk
    have new : ObjOk X.prog X.w (upd H s.heap.objs.size (.tup [.int (i : Nat), x])) h' s.heap.objs.size (.tup [.int (i : Nat), x]) :=
      ⟨by show 2 ≤ sizeLine; decide, [.int i s.toks, u], .cons ⟨_, rfl⟩ (.cons ru .nil), ⟨_, hT, rfl, _, rfl⟩⟩
    have I1 : Inv X pins σ (upd H s.heap.objs.size (.tup [.int (i : Nat), x])) { s with heap := h', toks := s.toks + 1 } :=
      I.turnedNew (ch := [e, it]) (fun b ob hb z => hk b ob (fun z => hb (by simp [z])) (fun z => hb (by simp [z])) z) hf (Nat.le_refl _) new
    refine ⟨s.heap.objs.size, rfl, I.hok.fresh (Nat.le_refl _), Nat.ne_of_gt hql, I1, ⟨hne, hit', .inr ⟨old, T', f, oT, ?_, hT', n1, n2, n3⟩⟩, fun b hb => ?_⟩
    · have e1 : ((i + 1 : Nat) : Int) = (i : Int) + 1 := by omega
      rw [e1]; exact he'
    · have hb' : b < s.heap.objs.size := by
        have e' : b = e ∨ b = it := by simpa using hb
        rcases e' with z | z
        · rw [z]; exact hel
        · rw [z]; exact hil
      obtain ⟨f0, f1⟩ := hf b hb
      exact ⟨by rw [upd_ne (Nat.ne_of_lt hb')]; exact f0, f1⟩
  have hx' : its.toArray[i]? = some u := by simpa using hu
  rcases hE with ⟨old, he⟩ | ⟨old, T, f, oT, he, hT, n1, n2, n3⟩
  · refine PySem.wpAny_pyNext_enum_item he hit p.isList hx' hne fun h' ho hit' hT hsz hk => ?_
    exact key h' s.heap.objs.size false u ho ⟨_, hT⟩ (Nat.ne_of_gt hel) (Nat.ne_of_gt hil) (Nat.ne_of_gt hql) hit' hT hk
  · refine PySem.wpAny_pyNext_enum_item_held he hT n1 n2 hit p.isList hx' hne fun h' ho hit' hT2 hsz hk => ?_
    exact key h' T true old ho ⟨_, hk T oT n1 n2 hT⟩ n1 n2 n3 hit' hT2 hk
theorem enum_end {A1 : Around} {E : Value → Shared → Prop} {e it a q : Addr} {i : Nat} {xs : List V} (hh : A1.handled = none) (I : Inv X pins σ H s) (hf : ∀ b ∈ [e, it], FpOk X pins H b) (st : EnSt s.heap e it a q i) (hq : SqL X.K H a xs) (hx : xs.length ≤ i) :
    wpAny (model X.prog X.w) A1 (pyNext (.ref e)) (fun r s' => r = none ∧ Inv X pins σ H s') E s := by
  obtain ⟨hne, hit, hE⟩ := st
  obtain ⟨its, rv, p, hz⟩ := I.list hq
  have hl := rv.length
  obtain ⟨f0, f1, f2, f3, f4, f5⟩ := hf it (by simp)
  have fin : ∀ h' : Heap, Heap.ExtBut it s.heap h' → Inv X pins σ H { s with heap := h' } := fun h' eb => I.turned (t' := s.toks) (fun b o hb z => eb b o hb z) f0 f1 f3 f4 f5
  have hx' : its.toArray[i]? = none := by simp; omega
  rcases hE with ⟨old, he⟩ | ⟨old, T, f, oT, he, hT, n1, n2, n3⟩
  · exact PySem.wpAny_pyNext_enum_end hh he hit p.isList hx' fun h' eb => ⟨rfl, fin h' eb⟩
  · exact PySem.wpAny_pyNext_enum_end_held hh he hit p.isList hx' fun h' eb => ⟨rfl, fin h' eb⟩
/-- the list at q of the tuples at Ts: each item of xs with its place -/
structure EnumAt (H' : Hp) (q : Addr) (Ts : List Addr) (xs : List V) : Prop where
  lst : H' q = some (.lst (Ts.map V.ref))
  len : Ts.length = xs.length
  tup : ∀ (j : Nat) T y, Ts[j]? = some T → xs[j]? = some y → H' T = some (.tup [.int (j : Nat), y])
theorem enum_loop {A1 : Around} {Rs : Result → Shared → Prop} {e it a q : Addr} {xs : List V} {H0 : Hp} (hh : A1.in1.handled = none) (h0q : H0 q = none) (hq0 : SqL X.K H0 a xs) (hlen : xs.length ≤ sizeLine)
    (hdone : ∀ Ts H' s', Inv X pins σ H' s' → Same H0 H' → EnumAt H' q Ts xs → Rs (.ok (.ret .none)) s') :
    ∀ (m : Nat) (Ts : List Addr) (H : Hp) (s : Shared), Ts.length + m = xs.length → Inv X pins σ H s → (∀ b ∈ [e, it], FpOk X pins H b) → EnSt s.heap e it a q Ts.length → Same H0 H → H q = some (.lst (Ts.map V.ref)) →
      (∀ (j : Nat) T y, Ts[j]? = some T → xs[j]? = some y → H T = some (.tup [.int (j : Nat), y])) → q ≠ e → q ≠ it →
      codeAny (model X.prog X.w) A1 (.builtin "list.extend.loop" ⟨[.ref q, .ref e, .none], []⟩) Rs s := by
  intro m
  induction m with
  | zero =>
    intro Ts H s hm I hf st sm hq ht ne ni
    refine codeAny_builtin PySem.F.entry_extend_loop ?_
    rw [Around.under_plainId PySem.F.plain_extend_loop _]
    show wpAny _ A1.in1 (pyNext (.ref e) >>= _) _ _ s
    refine wpAny_bind (thn (enum_end hh I hf st (sm.seq hq0) (by omega)) fun r s' ⟨hr, I'⟩ => ?_)
    subst hr
    exact wpAny_pure (hdone Ts H s' I' sm ⟨hq, by omega, ht⟩)
  | succ m ih =>
    intro Ts H s hm I hf st sm hq ht ne ni
    refine codeAny_builtin PySem.F.entry_extend_loop ?_
    rw [Around.under_plainId PySem.F.plain_extend_loop _]
    show wpAny _ A1.in1 (pyNext (.ref e) >>= _) _ _ s
    have hi : Ts.length < xs.length := by omega
    have hx : xs[Ts.length]? = some xs[Ts.length] := List.getElem?_eq_getElem hi
    have hql : q < s.heap.objs.size := I.hok.lt hq
    refine wpAny_bind (thn (enum_turn I hf st (sm.seq hq0) hx hql) fun r s' ⟨T, hr, hT, nq, I', st', hf'⟩ => ?_)
    subst hr
    show wpAny _ A1.in1 (updateSeq q (·.push (.ref T)) >>= _) _ _ _
    have hq' : (upd H T (.tup [.int (Ts.length : Nat), xs[Ts.length]])) q = some (.lst (Ts.map V.ref)) := by rw [upd_ne (Ne.symm nq)]; exact hq
    obtain ⟨z, its, k, r2, hl, e2⟩ := I'.lstM hq'
    have hlm : (Ts.map V.ref).length = Ts.length := by simp
    refine wpAny_bind (wpAny_updateSeq e2 rfl (wpAny_pure ⟨plainId_quiet PySem.F.plain_extend_loop _, ?_⟩) (by rw [List.size_toArray]; omega) (by show (its.toArray.push (.ref T)).size ≤ sizeLine + 1; rw [Array.size_push, List.size_toArray]; omega))
    have I2 := I'.lset (f := (·.push (.ref T))) (its' := its ++ [.ref T]) (ys := Ts.map V.ref ++ [.ref T]) (t' := s'.toks) hq' e2 (by simp) (r2.append (.cons (show RelV (V.ref T) (Value.ref T) from rfl) .nil)) (by rw [List.length_append, List.length_singleton]; omega)
    have eT : (Ts ++ [T]).map V.ref = Ts.map V.ref ++ [.ref T] := by simp
    have len1 : (Ts ++ [T]).length = Ts.length + 1 := by simp
    refine ih (Ts ++ [T]) (upd (upd H T (.tup [.int (Ts.length : Nat), xs[Ts.length]])) q (.lst (Ts.map V.ref ++ [.ref T]))) _ (by rw [len1]; omega) I2 (fun b hb => ?_) ?_ (fun b o eb => ?_) (by rw [eT]; exact upd_same) (fun j T' y e1 e3 => ?_) ne ni
    · obtain ⟨f0, f1⟩ := hf' b hb
      have hbq : b ≠ q := by
        have e' : b = e ∨ b = it := by simpa using hb
        rcases e' with z | z
        · rw [z]; exact Ne.symm ne
        · rw [z]; exact Ne.symm ni
      exact ⟨by rw [upd_ne hbq]; exact f0, f1⟩
    · rw [len1]
      obtain ⟨a1, a2, a3⟩ := st'
      have oth : ∀ b o, b ≠ q → s'.heap.get? b = some o → (s'.heap.update q (Obj.mapSeq (·.push (.ref T)))).get? b = some o := fun b o hb z => (Heap.get?_update_other _ _ (Ne.symm hb)).trans z
      refine ⟨a1, a2.at fun o z => oth it o (Ne.symm ni) z, ?_⟩
      rcases a3 with ⟨old, he⟩ | ⟨old, T2, f, oT, he, hT2, n1, n2, n3⟩
      · exact .inl ⟨old, oth e _ (Ne.symm ne) he⟩
      · exact .inr ⟨old, T2, f, oT, oth e _ (Ne.symm ne) he, oth T2 _ n3 hT2, n1, n2, n3⟩
    · rw [upd_ne (ne_of_none eb h0q), upd_ne (ne_of_none (sm b o eb) hT)]
      exact sm b o eb
    · have fresh : ∀ j' T'', Ts[j']? = some T'' → ∀ y', xs[j']? = some y' → T'' ≠ q ∧ T'' ≠ T := fun j' T'' g1 y' g2 => by
        have g := ht j' T'' y' g1 g2
        refine ⟨fun z => ?_, ne_of_none g hT⟩
        rw [z, hq] at g
        cases g
      by_cases hj : j < Ts.length
      · rw [List.getElem?_append_left hj] at e1
        obtain ⟨g1, g2⟩ := fresh j T' e1 y e3
        rw [upd_ne g1, upd_ne g2]
        exact ht j T' y e1 e3
      · rw [List.getElem?_append_right (by omega)] at e1
        have hj0 : j - Ts.length = 0 := by
          cases hh : j - Ts.length with
          | zero => rfl
          | succ k => rw [hh] at e1; simp at e1
        have hj1 : j = Ts.length := by omega
        rw [hj0] at e1
        have eT' : T = T' := by simpa using e1
        subst eT'
        subst hj1
        rw [upd_ne nq, upd_same]
        rw [hx] at e3
        cases e3
        rfl
theorem hint_enum {P : Program} {w : World} {A : Around} {E : Value → Shared → Prop} {e : Addr} {Q : Bool → Shared → Prop} (hT : s.TypeIs (.ref e) "enumerate") (h : Q true s) : wpAny (model P w) A (Builtin.List.listLengthHint (.ref e)) Q E s := by
  unfold Builtin.List.listLengthHint
  refine wpAny_bind (wpAny_specialOf hT (r := none) (by rw [typeLookup_type, builtinLookup_eq_fast]; kernel_rfl) ?_)
  refine PySem.W.KFB.if_not rfl ?_
  refine PySem.W.KFB.if_not rfl ?_
  refine wpAny_bind (wpAny_specialOf hT (r := none) (by rw [typeLookup_type, builtinLookup_eq_fast]; kernel_rfl) ?_)
  exact wpAny_pure h
/-- the list's own making over an enumerate object -/
theorem enum_list {E : Value → Shared → Prop} {e it a : Addr} {xs : List V} {Q : VK} (hh : X.A.handled = none) (I : Inv X pins σ H s) (hf : ∀ b ∈ [e, it], FpOk X pins H b) (he : IsEnum s.heap e it 0 .none) (hit : s.heap.IsListIter it a 0) (hne : e ≠ it)
    (hq : SqL X.K H a xs) (hlen : xs.length ≤ sizeLine) (hQ : ∀ q Ts H', H q = none → Same H H' → EnumAt H' q Ts xs → Q (.ref q) H') :
    wpAny (model X.prog X.w) X.A (call (.type "list") [.ref e]) (EP X pins σ Q) E s := by
  refine callType_codes (Q₁ := fun obj s₁ => obj = .ref s.heap.objs.size ∧ s₁ = { s with heap := s.heap.push { cls := .type "list", data := .seq #[] } }) PySem.F.called_list (PySem.F.typeCall_list_1 _) PySem.F.entry_list_init
    (code_list_new _ ⟨rfl, rfl⟩) fun obj s₁ h₁ => ?_
  obtain ⟨rfl, rfl⟩ := h₁
  have hS : (s.heap.push { cls := .type "list", data := .seq #[] }).get? s.heap.objs.size = some { cls := .type "list", data := .seq #[] } := Heap.get?_push_size _ rfl
  refine ⟨⟨_, hS, rfl⟩, PySem.F.args_list_init_2 _ _, ?_⟩
  have fr : H s.heap.objs.size = none := I.hok.fresh (Nat.le_refl _)
  have hel : e < s.heap.objs.size := Heap.lt_size he
  have hil : it < s.heap.objs.size := by obtain ⟨_, q, _⟩ := hit; exact Heap.lt_size q
  have ne : s.heap.objs.size ≠ e := Nat.ne_of_gt hel
  have ni : s.heap.objs.size ≠ it := Nat.ne_of_gt hil
  have I1 : Inv X pins σ (upd H s.heap.objs.size (.lst [])) { s with heap := s.heap.push { cls := .type "list", data := .seq #[] } } := I.lnew (its := []) (t' := s.toks) .nil (Nat.zero_le _)
  show wpAny _ _ (do let old ← Builtin.List.listItems (.ref s.heap.objs.size); Builtin.List.listUpdate (.ref s.heap.objs.size) (fun _ => #[]); letGo old.toList.reverse; Builtin.List.listExtendWith (.ref s.heap.objs.size) (.ref e) .none) _ _ _
  refine wpAny_bind ?_
  unfold Builtin.List.listItems
  refine wpAny_bind (wpAny_seqItems hS rfl (wpAny_pure ?_))
  show wpAny _ _ (updateSeq s.heap.objs.size (fun _ => #[]) >>= fun _ => letGo (#[] : Array Value).toList.reverse >>= fun _ => Builtin.List.listExtendWith (.ref s.heap.objs.size) (.ref e) .none) _ _ _
  refine wpAny_bind (wpAny_updateSeq hS rfl ?_)
  have I2 := I1.lset (f := fun _ => #[]) (its := []) (its' := []) (ys := []) (t' := s.toks) upd_same hS rfl .nil (Nat.zero_le _)
  rw [upd_upd] at I2
  refine wpAny_bind (wpAny_letGo ?_)
  have push : ∀ b o, s.heap.get? b = some o → (s.heap.push { cls := .type "list", data := .seq #[] }).get? b = some o := fun b o z => Heap.get?_push_of_some _ z
  have oth : ∀ (f : Array Value → Array Value) (h : Heap) b o, b ≠ s.heap.objs.size → h.get? b = some o → (h.update s.heap.objs.size (Obj.mapSeq f)).get? b = some o := fun f h b o hb z => (Heap.get?_update_other _ _ (Ne.symm hb)).trans z
  have he2 : IsEnum ((s.heap.push { cls := .type "list", data := .seq #[] }).update s.heap.objs.size (Obj.mapSeq fun _ => #[])) e it 0 .none := oth _ _ e _ (Ne.symm ne) (push e _ he)
  have hit2 : ((s.heap.push { cls := .type "list", data := .seq #[] }).update s.heap.objs.size (Obj.mapSeq fun _ => #[])).IsListIter it a 0 := hit.at fun o z => oth _ _ it o (Ne.symm ni) (push it o z)
  have hf2 : ∀ b ∈ [e, it], FpOk X pins (upd H s.heap.objs.size (.lst [])) b := fun b hb => by
    obtain ⟨f0, f1⟩ := hf b hb
    have hbq : b ≠ s.heap.objs.size := by
      have e' : b = e ∨ b = it := by simpa using hb
      rcases e' with z | z
      · rw [z]; exact Ne.symm ne
      · rw [z]; exact Ne.symm ni
    exact ⟨by rw [upd_ne hbq]; exact f0, f1⟩
  have hh2 : X.A.in1.in1.handled = none := hh
  have fin : ∀ Ts H' s', Inv X pins σ H' s' → Same H H' → EnumAt H' s.heap.objs.size Ts xs →
      wants (fun r s₂ => r = .none ∧ EP X pins σ Q (.ref s.heap.objs.size) s₂) E (.ok (.ret .none)) s' :=
    fun Ts H' s' I' sm ea => ⟨rfl, .ref s.heap.objs.size, H', I', rfl, hQ _ Ts H' fr sm ea⟩
  have hT : ({ s with heap := (s.heap.push { cls := .type "list", data := .seq #[] }).update s.heap.objs.size (Obj.mapSeq fun _ => #[]) } : Shared).TypeIs (.ref e) "enumerate" := ⟨_, he2, rfl⟩
  unfold Builtin.List.listExtendWith
  refine wpAny_bind (wpAny_typeOf (T := "enumerate") hT ?_)
  have h1 : Builtin.List.listSameRef (.ref s.heap.objs.size) (.ref e) = false := by simp [Builtin.List.listSameRef, ne]
  have h2 : (Value.type "enumerate" == Value.type "list") = false := by decide
  have h3 : (Value.type "enumerate" == Value.type "tuple") = false := by decide
  simp only [h1, h2, h3, Bool.or_false, Bool.false_eq_true, if_false]
  refine wpAny_bind (wpAny_pyIter_enum he2 ?_)
  refine wpAny_bind (wpAny_holding (hint_enum hT ?_))
  have est0 : ∀ h : Heap, (∀ b o, b ≠ s.heap.objs.size → s.heap.get? b = some o → h.get? b = some o) → EnSt h e it a s.heap.objs.size 0 := fun h k =>
    ⟨hne, hit.at fun o z => k it o (Ne.symm ni) z, .inl ⟨.none, k e _ (Ne.symm ne) he⟩⟩
  have sm0 : Same H (upd H s.heap.objs.size (.lst [])) := same_updX fr
  refine wpAny_ite_split (fun _ => ?_) (fun _ => wpAny_pure ⟨plainId_quiet PySem.F.plain_extend_loop _, enum_loop hh2 fr hq hlen fin xs.length [] _ _ (by simp) I2 hf2 (est0 _ fun b o hb z => oth _ _ b o hb (push b o z)) sm0 upd_same (fun j T y e1 => by simp at e1) ne ni⟩)
  refine wpAny_bind (wpAny_rule ?_)
  refine wpAny_bind ?_
  show wpAny _ _ (updateSeq s.heap.objs.size (·.push .none) >>= fun _ => updateSeq s.heap.objs.size (·.pop)) _ _ _
  obtain ⟨z3, its3, k3, r3, hl3, e3⟩ := I2.lstM upd_same
  cases r3
  refine wpAny_bind (wpAny_updateSeq e3 rfl ?_)
  have I3 := I2.lset (f := (·.push Value.none)) (its' := [Value.none]) (ys := [.non]) (t' := s.toks) upd_same e3 (by simp) (.cons rfl .nil) (by rw [List.length_singleton, sizeLine_eq]; decide)
  obtain ⟨z4, its4, k4, r4, hl4, e4⟩ := I3.lstM upd_same
  obtain ⟨u4, rfl, ru4⟩ := r4.one
  refine wpAny_updateSeq e4 rfl ?_ (by show 1 ≤ sizeLine; rw [sizeLine_eq]; decide) (by show 0 ≤ sizeLine + 1; exact Nat.zero_le _)
  have I4 := I3.lset (f := (·.pop)) (its := [u4]) (its' := []) (ys := []) (t' := s.toks) upd_same e4 (by rfl) .nil (Nat.zero_le _)
  rw [upd_upd, upd_upd] at I4
  exact wpAny_pure ⟨plainId_quiet PySem.F.plain_extend_loop _, enum_loop hh2 fr hq hlen fin xs.length [] _ _ (by simp) I4 hf2 (est0 _ fun b o hb z => oth _ _ b o hb (oth _ _ b o hb (oth _ _ b o hb (push b o z)))) sm0 upd_same (fun j T y e1 => by simp at e1) ne ni⟩
def tListEnum (K : PySem.W.Frag) (ta : TA) : TE := fun σ H Q => ta σ H fun vs H1 => ∃ a xs, vs = [.ref a] ∧ SqL K H1 a xs ∧ ∀ q Ts H', H1 q = none → Same H1 H' → EnumAt H' q Ts xs → Q (.ref q) H'
theorem pe_listEnum {e : Expr} {ta : TA} {p p2 pos pos2 : Pos} (hc : X.calm = true) (hg : Gl X "list") (hm : X.mg "list" = none) (hg2 : Gl X "enumerate") (hm2 : X.mg "enumerate" = none) (ha : PA X [e] ta)
    (hs : starEach [e] X.env = [(false, eval e X.env)] := by rfl) (hs2 : starEach [Expr.Call (.Name "enumerate" p2) [e] [] pos2] X.env = [(false, eval (Expr.Call (.Name "enumerate" p2) [e] [] pos2) X.env)] := by rfl) :
    PE X (.Call (.Name "list" p) [.Call (.Name "enumerate" p2) [e] [] pos2] [] pos) (tListEnum X.K ta) := by
  refine ⟨fun pins s σ H Q I h => ?_⟩
  refine wpAny_Call_Name_kw (ld_blt I hg hm (by decide +kernel : bootBuiltins ("list" : Str) = some (.type "list")) ?_)
  refine PyProof.Rows.callWith_type1 ?_ hs2 rfl
  rw [hs2]
  refine Calls.spliced_cons ?_
  refine Call_ (ld_blt I hg2 hm2 boot_enumerate (PyProof.Rows.callWith_type1 (thn (ha.run pos2 pins s σ H _ I h) fun us s1 ⟨vs, H1, I1, r1, q1⟩ => ?_) hs rfl))
  obtain ⟨a, xs, ex, hq, q⟩ := q1
  subst ex
  cases r1 with
  | cons r rr =>
    cases rr
    cases r
    obtain ⟨its, rv, p', hz⟩ := I1.list hq
    refine call_enumerate_list p'.isList fun h' he hit hsz hk => Calls.spliced_nil ?_
    have I2 : Inv X pins σ H1 { s1 with heap := h' } := I1.kept (t' := s1.toks) hk
    refine enum_list (I1.ok.hd hc) I2 (fun b hb => ?_) he hit (Nat.succ_ne_self _) hq hz q
    have e' : b = s1.heap.objs.size + 1 ∨ b = s1.heap.objs.size := by simpa using hb
    have hle : s1.heap.objs.size ≤ b := by
      rcases e' with z | z
      · rw [z]; exact Nat.le_add_right _ _
      · rw [z]; exact Nat.le_refl _
    exact I1.fpOk hle (I1.hok.fresh hle)

/-! ### xs[i] op= e, xs a list -/
theorem get_listX : PGet X (rIxL X.K) := by
  intro pins s σ H x y v u Q I rx ry h
  obtain ⟨p, xs, i, z, rfl, rfl, hq, he, q⟩ := h
  cases rx
  obtain ⟨t, rfl⟩ := ry
  obtain ⟨its, r, pl, hz⟩ := I.list hq
  obtain ⟨j, h1, h2, h3, h4, h5⟩ := atI_get he
  obtain ⟨w, ew, rw'⟩ := r.get h2
  have hl := r.length
  have hn := line63
  have fin : EP X pins σ Q w s := ⟨z, H, I, rw', q⟩
  by_cases h0 : 0 ≤ i
  · have hj : i.toNat = j := by
      rw [seqIndex_of h0 h5] at h1
      exact Option.some.inj h1
    exact wpAny_getItem_list pl.isList h0 (by omega) (by rw [hj]; simpa using ew) fin
  · have hj : (i + (its.toArray.size : Int)).toNat = j := by
      rw [seqIndex_neg (by omega) h4] at h1
      rw [List.size_toArray, ← hl]
      exact Option.some.inj h1
    exact wpAny_getItem_list_neg pl.isList (by omega) (by rw [List.size_toArray] <;> omega) (by omega) (by rw [hj]; simpa using ew) fin
end
end L2

namespace Q
open PySem L2
def top (i : Nat) : Stmt := PySem.Challenge.pw_untoldprimes_k08_least_primes.main.body.getD i (.Pass ⟨0, 0, 0, 0⟩)
abbrev s_root : Stmt := top 1
abbrev s_least_prime : Stmt := top 3
abbrev s_law_hand : Stmt := top 5
abbrev s_law_draw : Stmt := top 6
abbrev s_law_cells : Stmt := top 7
abbrev s_law_known : Stmt := top 8
abbrev s_law_right : Stmt := top 9
abbrev s_law : Stmt := top 10
theorem sc_root : FnScope ["number", "low", "high", "amid"] ["number"] (defScope s_root) := ⟨rfl, rfl, rfl, by decide +kernel, rfl, by decide +kernel, by decide +kernel⟩
theorem sc_least_prime : FnScope ["number", "prime", "most"] ["number"] (defScope s_least_prime) := ⟨rfl, rfl, rfl, by decide +kernel, rfl, by decide +kernel, by decide +kernel⟩
theorem sc_law_hand : FnScope ["cell", "k", "digits"] ["cell", "k"] (defScope s_law_hand) := ⟨rfl, rfl, rfl, by decide +kernel, rfl, by decide +kernel, by decide +kernel⟩
theorem sc_law_draw : FnScope ["hand", "limit", "got"] ["hand", "limit"] (defScope s_law_draw) := ⟨rfl, rfl, rfl, by decide +kernel, rfl, by decide +kernel, by decide +kernel⟩
theorem sc_law_cells : FnScope ["script", "many"] ["script", "many"] (defScope s_law_cells) := ⟨rfl, rfl, rfl, by decide +kernel, rfl, by decide +kernel, by decide +kernel⟩
theorem sc_law_known : FnScope ["hand", "some"] ["hand"] (defScope s_law_known) := ⟨rfl, rfl, rfl, by decide +kernel, rfl, by decide +kernel, by decide +kernel⟩
theorem sc_law_right : FnScope ["number", "due", "turn", "told"] ["number", "due"] (defScope s_law_right) := ⟨rfl, rfl, rfl, by decide +kernel, rfl, by decide +kernel, by decide +kernel⟩
theorem sc_law : FnScope ["script", "k", "cell", "hand", "number", "least", "turn", "prime", "one"] ["script"] (defScope s_law) := ⟨rfl, rfl, rfl, by decide +kernel, rfl, by decide +kernel, by decide +kernel⟩
/-- what the top leaves -/
structure Tp (K : PySem.W.Frag) (mg : Str → Option Value) where
  f_root : Addr
  fd_root : FuncData
  F_root : Fun K "root" "root" s_root f_root fd_root
  b_root : Binds K fd_root ["number"] []
  m_root : mg "root" = some (.ref f_root)
  f_least_prime : Addr
  fd_least_prime : FuncData
  F_least_prime : Fun K "least_prime" "least_prime" s_least_prime f_least_prime fd_least_prime
  b_least_prime : Binds K fd_least_prime ["number"] []
  m_least_prime : mg "least_prime" = some (.ref f_least_prime)
  f_law_hand : Addr
  fd_law_hand : FuncData
  F_law_hand : Fun K "_law_hand" "_law_hand" s_law_hand f_law_hand fd_law_hand
  b_law_hand : Binds K fd_law_hand ["cell", "k"] []
  m_law_hand : mg "_law_hand" = some (.ref f_law_hand)
  f_law_draw : Addr
  fd_law_draw : FuncData
  F_law_draw : Fun K "_law_draw" "_law_draw" s_law_draw f_law_draw fd_law_draw
  b_law_draw : Binds K fd_law_draw ["hand", "limit"] []
  m_law_draw : mg "_law_draw" = some (.ref f_law_draw)
  f_law_cells : Addr
  fd_law_cells : FuncData
  F_law_cells : Fun K "_law_cells" "_law_cells" s_law_cells f_law_cells fd_law_cells
  b_law_cells : Binds K fd_law_cells ["script", "many"] []
  m_law_cells : mg "_law_cells" = some (.ref f_law_cells)
  f_law_known : Addr
  fd_law_known : FuncData
  F_law_known : Fun K "_law_known" "_law_known" s_law_known f_law_known fd_law_known
  b_law_known : Binds K fd_law_known ["hand"] []
  m_law_known : mg "_law_known" = some (.ref f_law_known)
  f_law_right : Addr
  fd_law_right : FuncData
  F_law_right : Fun K "_law_right" "_law_right" s_law_right f_law_right fd_law_right
  b_law_right : Binds K fd_law_right ["number", "due"] []
  m_law_right : mg "_law_right" = some (.ref f_law_right)
  f_law : Addr
  fd_law : FuncData
  F_law : Fun K "law" "law" s_law f_law fd_law
  b_law : Binds K fd_law ["script"] []
  m_law : mg "law" = some (.ref f_law)
  z_bool : mg "bool" = none
  z_enumerate : mg "enumerate" = none
  z_int : mg "int" = none
  z_isinstance : mg "isinstance" = none
  z_len : mg "len" = none
  z_list : mg "list" = none
  z_min : mg "min" = none
  z_range : mg "range" = none
end Q


namespace Q
open PySem L2
/-- the whole root -/
def rt : Nat → Nat
  | 0 => 0
  | n + 1 => if (rt n + 1) * (rt n + 1) ≤ n + 1 then rt n + 1 else rt n
theorem rt_spec : ∀ n, rt n * rt n ≤ n ∧ n < (rt n + 1) * (rt n + 1)
  | 0 => by simp [rt]
  | n + 1 => by
    have ih := rt_spec n
    unfold rt
    by_cases h : (rt n + 1) * (rt n + 1) ≤ n + 1
    · rw [if_pos h]
      refine ⟨h, ?_⟩
      have e : (rt n + 1 + 1) * (rt n + 1 + 1) = (rt n + 1) * (rt n + 1) + 2 * (rt n + 1) + 1 := by
        rw [Nat.add_mul, Nat.mul_add (rt n + 1) (rt n + 1) 1]; omega
      omega
    · rw [if_neg h]
      omega
theorem rt_uniq {n r : Nat} (h1 : r * r ≤ n) (h2 : n < (r + 1) * (r + 1)) : r = rt n := by
  have s := rt_spec n
  rcases Nat.lt_trichotomy r (rt n) with h | h | h
  · have := Nat.mul_le_mul (show r + 1 ≤ rt n from h) (show r + 1 ≤ rt n from h)
    omega
  · exact h
  · have := Nat.mul_le_mul (show rt n + 1 ≤ r from h) (show rt n + 1 ≤ r from h)
    omega
theorem lt_of_sq {a b : Nat} (h : a * a < b * b) : a < b := by
  by_cases q : a < b
  · exact q
  · have := Nat.mul_le_mul (show b ≤ a by omega) (show b ≤ a by omega)
    omega
theorem le_self_sq (a : Nat) : a ≤ a * a := by
  cases a with
  | zero => exact Nat.le_refl _
  | succ a => exact Nat.le_mul_of_pos_left _ (Nat.succ_pos a)
theorem dec {p : Prop} [Decidable p] (h : decide p = true) : p := of_decide_eq_true h
theorem ndec {p : Prop} [Decidable p] (h : ¬ decide p = true) : ¬ p := fun q => h (decide_eq_true q)
section
variable {P : Program} {w : World} {K : PySem.W.Frag} {mg : Str → Option Value} {base : Heap}
def sp_root : Sp := fun vs H Q _ => ∃ n : Nat, vs = [.int n] ∧ n ≤ 10 ^ 24 ∧ Q (.int (rt n : Nat)) H
theorem ok_root (T : Tp K mg) : FnOk P w K mg base CX0 1 T.f_root T.fd_root ["number"] sp_root := by
  refine T.F_root.ok sc_root (fun vs H Q E h => ?_) (fun cdv A outer s H vs Q E hr h => ?_)
  · obtain ⟨n, rfl, _⟩ := h
    rfl
  · obtain ⟨n, rfl, hn, q⟩ := h
    refine ⟨_, pss_cons (ps_set (i := 1) sc_root.nd rfl (.inl rfl) pe_int)
      (pss_cons (ps_set (i := 2) sc_root.nd rfl (.inl rfl) pe_int)
      (pss_cons (ps_while PassesOwn.never (pt_cmpR op_le (pe_op op_mul (pv 2) (pv 2)) (pv 0) (nomark _)) (pss_cons (ps_set (i := 1) sc_root.nd rfl (.inl rfl) (pv 2))
      (pss_one (ps_set (i := 2) sc_root.nd rfl (.inl rfl) (pe_op op_mul pe_int (pv 2))))))
      (pss_cons (ps_while PassesOwn.never (pt_cmpR op_gt (pe_op op_sub (pv 2) (pv 1)) pe_int (nomark _)) (pss_cons (ps_set (i := 3) sc_root.nd rfl (.inl rfl) (pe_op op_fdiv (pe_op op_add (pv 1) (pv 2)) pe_int))
      (pss_one (ps_if (pt_cmpR op_le (pe_op op_mul (pv 3) (pv 3)) (pv 0) (nomark _)) (pss_one (ps_set (i := 1) sc_root.nd rfl (.inl rfl) (pv 3))) (pss_one (ps_set (i := 2) sc_root.nd rfl (.inl rfl) (pv 3)))))))
      (pss_one (ps_ret (pv 1)))))), ?_⟩
    refine ⟨fun m σ H' => ∃ l h : Nat, H' = H ∧ σ = [some (.int n), some (.int l), some (.int h), none] ∧ l * l ≤ n ∧ l < h ∧ l ≤ n ∧ h ≤ 2 * l + 1 ∧ m = n + 1 - h, ⟨n, 0, 1, rfl, rfl, by omega⟩, ?_⟩
    rintro m σ H' ⟨l, h, rfl, rfl, h1, h2, h3, h4, rfl⟩
    have hb : h < 2 ^ 50 := by
      refine lt_of_sq (Nat.lt_of_le_of_lt (m := (2 * l + 1) * (2 * l + 1)) (Nat.mul_le_mul h4 h4) ?_)
      have e : (2 * l + 1) * (2 * l + 1) = 4 * (l * l) + 4 * l + 1 := by
        rw [Nat.add_mul, Nat.mul_add, Nat.mul_mul_mul_comm]; omega
      omega
    refine ⟨_, rfl, _, rfl, _, _, rfl, rfl, .inl ⟨by omega, by omega⟩, _, rfl, _, _, rfl, rfl, _, rfl, ite2 (fun e => ?_) (fun e => ?_)⟩
    · have e := dec e
      have e1 : h * h ≤ n := by omega
      have := le_self_sq h
      refine ⟨fun σ' H'' => ∃ m', m' < n + 1 - h ∧ ∃ l' h' : Nat, H'' = H' ∧ σ' = [some (.int n), some (.int l'), some (.int h'), none] ∧ l' * l' ≤ n ∧ l' < h' ∧ l' ≤ n ∧ h' ≤ 2 * l' + 1 ∧ m' = n + 1 - h', fun _ _ z => z, ?_⟩
      refine ⟨_, rfl, _, rfl, _, _, rfl, rfl, .inl ⟨by omega, by omega⟩, _, ?_, h, 2 * h, rfl, rfl, e1, ?_, ?_, ?_, rfl⟩
      all_goals omega
    · have e := ndec e
      have e1 : n < h * h := by omega
      refine ⟨fun m σ H'' => ∃ (l h : Nat) (y : Option V), H'' = H' ∧ σ = [some (.int n), some (.int l), some (.int h), y] ∧ l * l ≤ n ∧ n < h * h ∧ l < h ∧ h < 2 ^ 50 ∧ m = h - l, ⟨_, l, h, none, rfl, rfl, h1, e1, h2, hb, rfl⟩, ?_⟩
      rintro m σ H'' ⟨l, h, y, rfl, rfl, h1, e1, h2, hb, rfl⟩
      refine ⟨_, rfl, _, rfl, _, _, rfl, rfl, _, _, rfl, rfl, _, rfl, ite2 (fun e => ?_) (fun e => ?_)⟩
      · have e := dec e
        refine ⟨fun σ' H3 => ∃ m', m' < h - l ∧ ∃ (l h : Nat) (y : Option V), H3 = H'' ∧ σ' = [some (.int n), some (.int l), some (.int h), y] ∧ l * l ≤ n ∧ n < h * h ∧ l < h ∧ h < 2 ^ 50 ∧ m' = h - l, fun _ _ z => z, ?_⟩
        have ea : ((l : Int) + (h : Int)) / 2 = (((l + h) / 2 : Nat) : Int) := by omega
        refine ⟨_, rfl, _, rfl, _, _, rfl, rfl, _, _, rfl, rfl, ⟨by decide, by decide⟩, ?_⟩
        simp only [ea]
        generalize hm : (l + h) / 2 = a
        refine ⟨_, rfl, _, rfl, _, _, rfl, rfl, .inl ⟨by omega, by omega⟩, _, rfl, _, _, rfl, rfl, _, rfl, ite2 (fun e => ?_) (fun e => ?_)⟩
        · have e := dec e
          exact ⟨_, rfl, _, by omega, a, h, _, rfl, rfl, by omega, e1, by omega, hb, rfl⟩
        · have e := ndec e
          exact ⟨_, rfl, _, by omega, l, a, _, rfl, rfl, h1, by omega, by omega, by omega, rfl⟩
      · have e := ndec e
        have e2 : h = l + 1 := by omega
        subst e2
        refine ⟨_, rfl, ?_⟩
        rw [rt_uniq h1 e1]
        exact q
end
end Q

namespace Q
open PySem L2 PM
theorem mod0 {n p : Nat} : (V.int ((n : Int) % (p : Int)) = V.int 0) ↔ p ∣ n := by
  constructor
  · intro h
    have h := V.int.inj h
    exact Int.ofNat_dvd.mp (Int.dvd_of_emod_eq_zero h)
  · intro h
    rw [Int.emod_eq_zero_of_dvd (Int.ofNat_dvd.mpr h)]
theorem not_dvd_of {a b n : Nat} (h : a ∣ b) (hn : ¬ a ∣ n) : ¬ b ∣ n := fun q => hn (Nat.dvd_trans h q)
section
variable {P : Program} {w : World} {K : PySem.W.Frag} {mg : Str → Option Value} {base : Heap}
def sp_least : Sp := fun vs H Q _ => ∃ n : Nat, vs = [.int n] ∧ 2 ≤ n ∧ n ≤ 10 ^ 12 ∧ ∀ (d : Nat) H', MF n d → Same H H' → Q (.int d) H'
theorem ok_least (T : Tp K mg) : FnOk P w K mg base CX0 2 T.f_least_prime T.fd_least_prime ["number"] sp_least := by
  have G_root : FnOk P w K mg base CX0 1 T.f_root T.fd_root ["number"] sp_root := ok_root T
  refine T.F_least_prime.ok sc_least_prime (fun vs H Q E h => ?_) (fun cdv A outer s H vs Q E hr h => ?_)
  · obtain ⟨n, rfl, _⟩ := h
    rfl
  · obtain ⟨n, rfl, h2, hn, q⟩ := h
    have hr_root := hr
    refine ⟨_, pss_cons (ps_for PassesOwn.never rfl (pi_tup (pe_tup (pa_cons pe_int (pa_cons pe_int pa_nil)))) (pg_name (i := 1) sc_least_prime.nd rfl (.inl rfl)) (pss_one (ps_if (pt_cmpR op_eq (pe_op op_mod (pv 0) (pv 1)) pe_int (nomark _)) (pss_one (ps_ret (pv 1))) (pss_nil))))
      (pss_cons (ps_set (i := 2) sc_least_prime.nd rfl (.inl rfl) (pe_call G_root hr_root (by rfl) T.m_root T.F_root.kp T.b_root .nil pass0 (pa_cons (pv 0) pa_nil)))
      (pss_cons (ps_set (i := 1) sc_least_prime.nd rfl (.inl rfl) pe_int)
      (pss_cons (ps_while PassesOwn.never (pt_cmpR op_le (pv 1) (pv 2) (nomark _)) (pss_cons (ps_if (pt_cmpR op_eq (pe_op op_mod (pv 0) (pv 1)) pe_int (nomark _)) (pss_one (ps_ret (pv 1))) (pss_nil))
      (pss_cons (ps_if (pt_cmpR op_eq (pe_op op_mod (pv 0) (pe_op op_add (pv 1) pe_int)) pe_int (nomark _)) (pss_one (ps_ret (pe_op op_add (pv 1) pe_int))) (pss_nil))
      (pss_one (ps_aug (i := 1) sc_least_prime.nd rfl (.inl rfl) pe_int ip_add)))))
      (pss_one (ps_ret (pv 0)))))), ?_⟩
    refine ⟨by show 2 ≤ sizeLine; decide, fun p np => ⟨p, rfl, ⟨_, SqT.of upd_same⟩, ?_⟩⟩
    have sm : Same H (upd H p (.tup [.int 2, .int 3])) := same_updX np
    generalize hH : upd H p (.tup [.int 2, .int 3]) = H1 at sm ⊢
    have ht : SqT K H1 p [.int 2, .int 3] := by rw [← hH]; exact SqT.of upd_same
    refine for_tup (xs := [V.int 2, V.int 3]) (K := K) (a := p) (fun i σ H' => H' = H1 ∧ (1 ≤ i → ¬ 2 ∣ n) ∧ (2 ≤ i → ¬ 3 ∣ n) ∧ ∃ y, σ = [some (.int n), y, none]) ⟨rfl, by omega, by omega, none, rfl⟩ (fun i σ H' _ z => z.1 ▸ ht) ?_ ?_
    · rintro i x σ H' hx ⟨rfl, i1, i2, y, rfl⟩
      match i, hx with
      | 0, hx =>
        cases hx
        refine ⟨_, rfl, _, rfl, _, _, rfl, rfl, (by show (0 : Int) < 2; decide), rfl, _, rfl, ite2 (fun e => ?_) (fun e => ?_)⟩
        · exact ⟨_, rfl, q 2 _ ⟨by omega, (mod0 (p := 2)).mp (dec e), by omega⟩ sm⟩
        · exact ⟨rfl, fun _ => fun z => (ndec e) ((mod0 (p := 2)).mpr z), by omega, _, rfl⟩
      | 1, hx =>
        cases hx
        have n2 := i1 (by omega)
        refine ⟨_, rfl, _, rfl, _, _, rfl, rfl, (by show (0 : Int) < 3; decide), rfl, _, rfl, ite2 (fun e => ?_) (fun e => ?_)⟩
        · exact ⟨_, rfl, q 3 _ ⟨by omega, (mod0 (p := 3)).mp (dec e), fun e h1 h2 => (show e = 2 by omega) ▸ n2⟩ sm⟩
        · exact ⟨rfl, fun _ => n2, fun _ => fun z => (ndec e) ((mod0 (p := 3)).mpr z), _, rfl⟩
    · rintro σ H' ⟨rfl, i1, i2, y, rfl⟩
      have n2 := i1 (by decide)
      have n3 := i2 (by decide)
      refine ⟨_, rfl, n, rfl, by omega, ?_⟩
      refine ⟨fun m σ H'' => ∃ p : Nat, H'' = H' ∧ σ = [some (.int n), some (.int p), some (.int (rt n : Nat))] ∧ (∀ e, 2 ≤ e → e < p → ¬ e ∣ n) ∧ p % 6 = 5 ∧ m = rt n + 1 - p, ⟨_, 5, rfl, rfl, ?_, rfl, rfl⟩, ?_⟩
      · intro e h1 h3
        have : e = 2 ∨ e = 3 ∨ e = 4 := by omega
        rcases this with rfl | rfl | rfl
        · exact n2
        · exact n3
        · exact not_dvd_of (by decide) n2
      · rintro m σ H'' ⟨p, rfl, rfl, hp, h6, rfl⟩
        have hs := rt_spec n
        refine ⟨_, rfl, _, rfl, _, _, rfl, rfl, _, rfl, ite2 (fun e => ?_) (fun e => ?_)⟩
        · have e := dec e
          refine ⟨fun σ' H3 => ∃ m', m' < rt n + 1 - p ∧ ∃ p : Nat, H3 = H'' ∧ σ' = [some (.int n), some (.int p), some (.int (rt n : Nat))] ∧ (∀ e, 2 ≤ e → e < p → ¬ e ∣ n) ∧ p % 6 = 5 ∧ m' = rt n + 1 - p, fun _ _ z => z, ?_⟩
          refine ⟨_, rfl, _, rfl, _, _, rfl, rfl, (by omega), rfl, _, rfl, ite2 (fun e => ?_) (fun e => ?_)⟩
          · exact ⟨_, rfl, q p _ ⟨by omega, mod0.mp (dec e), hp⟩ sm⟩
          · have d0 : ¬ p ∣ n := fun z => ndec e (mod0.mpr z)
            have d1 : ¬ (p + 1) ∣ n := not_dvd_of (Nat.dvd_of_mod_eq_zero (by omega)) n2
            refine ⟨_, rfl, _, rfl, _, _, rfl, rfl, _, _, rfl, rfl, (by omega), rfl, _, rfl, ite2 (fun e => ?_) (fun e => ?_)⟩
            · refine ⟨_, rfl, _, _, rfl, rfl, ?_⟩
              refine q (p + 2) _ ⟨by omega, (mod0 (p := p + 2)).mp (dec e), fun e h1 h2 => ?_⟩ sm
              have : e < p ∨ e = p ∨ e = p + 1 := by omega
              rcases this with z | rfl | rfl
              · exact hp e h1 z
              · exact d0
              · exact d1
            · have d2 : ¬ (p + 2) ∣ n := fun z => ndec e ((mod0 (p := p + 2)).mpr z)
              have d3 : ¬ (p + 3) ∣ n := not_dvd_of (Nat.dvd_of_mod_eq_zero (by omega)) n2
              have d4 : ¬ (p + 4) ∣ n := not_dvd_of (Nat.dvd_of_mod_eq_zero (by omega)) n3
              have d5 : ¬ (p + 5) ∣ n := not_dvd_of (Nat.dvd_of_mod_eq_zero (by omega)) n2
              refine ⟨_, rfl, _, _, rfl, rfl, _, ?_, p + 6, rfl, rfl, fun e h1 h2 => ?_, by omega, rfl⟩
              · omega
              · have : e < p ∨ e = p ∨ e = p + 1 ∨ e = p + 2 ∨ e = p + 3 ∨ e = p + 4 ∨ e = p + 5 := by omega
                rcases this with z | rfl | rfl | rfl | rfl | rfl | rfl
                · exact hp e h1 z
                all_goals assumption
        · have e := ndec e
          refine ⟨_, rfl, q n _ (pr_of_root h2 hs.2 fun d hd hl => hp d hd (by omega)) sm⟩
end
end Q

namespace Q
open PySem L2 PM
/-- what the law draws from -/
def HandAt (H : Hp) (p : Addr) : Prop := ∃ a b : Int, H p = some (.lst [.int a, .int b]) ∧ 0 ≤ b ∧ b < 2147483648
/-- all that stood but p stands -/
def But (p : Addr) (H H' : Hp) : Prop := ∀ b o, b ≠ p → H b = some o → H' b = some o
theorem But.refl (p : Addr) (H : Hp) : But p H H := fun _ _ _ z => z
theorem But.trans {p : Addr} {H H1 H2 : Hp} (a : But p H H1) (b : But p H1 H2) : But p H H2 := fun c o n e => b c o n (a c o n e)
theorem But.upd {p : Addr} {H : Hp} (o : HO) : But p H (upd H p o) := fun c u n e => by rw [upd_ne n]; exact e
theorem But.of_same {p : Addr} {H H' : Hp} (s : Same H H') : But p H H' := fun c o _ e => s c o e
theorem But.same {p : Addr} {H0 H H' : Hp} (n : H0 p = none) (s : Same H0 H) (b : But p H H') : Same H0 H' := fun c o e => b c o (ne_of_none e n) (s c o e)
theorem But.seq {K : PySem.W.Frag} {p a : Addr} {H H' : Hp} {xs : List V} (b : But p H H') (n : a ≠ p) (h : SqL K H a xs) : SqL K H' a xs := by
  rcases h with (h | ⟨o, h⟩) | h
  · exact .inl (.inl (b _ _ n h))
  · exact .inl (.inr ⟨o, b _ _ n h⟩)
  · exact .inr h
section
variable {P : Program} {w : World} {K : PySem.W.Frag} {mg : Str → Option Value} {base : Heap}
def sp_hand : Sp := fun vs H Q _ => ∃ c k : Int, vs = [.int c, .int k] ∧ 0 ≤ k ∧ k < 1000 ∧ ∀ p H', H p = none → Same H H' → HandAt H' p → Q (.ref p) H'
theorem ok_hand (T : Tp K mg) : FnOk P w K mg base CX0 1 T.f_law_hand T.fd_law_hand ["cell", "k"] sp_hand := by
  refine T.F_law_hand.ok sc_law_hand (fun vs H Q E h => ?_) (fun cdv A outer s H vs Q E hr h => ?_)
  · obtain ⟨n, k, rfl, _⟩ := h
    rfl
  · obtain ⟨c, k, rfl, h1, h2, q⟩ := h
    refine ⟨_, pss_cons (ps_set (i := 2) sc_law_hand.nd rfl (.inl rfl) pe_int)
      (pss_cons (ps_if (pt_cmpR op_ge (pv 0) (pe_op op_pow pe_int pe_int) (nomark _)) (pss_one (ps_set (i := 2) sc_law_hand.nd rfl (.inl rfl) (pv 0))) (pss_nil))
      (pss_one (ps_ret (pe_lst (pa_cons (pv 2) (pa_cons (pe_op op_mod (pe_op op_mul (pe_op op_add (pe_op op_add (pe_op op_mod (pv 0) pe_int) (pe_op op_mul pe_int (pv 1))) pe_int) pe_int) pe_int) pa_nil)))))), ?_⟩
    have fin2 : ∀ (p : Addr) (d e : Int), H p = none → 0 ≤ e → e < 2147483648 → Q (.ref p) (upd H p (.lst [.int d, .int e])) := fun p d e np e0 e1 => q p _ np (same_updX np) ⟨d, e, upd_same, e0, e1⟩
    refine ⟨_, rfl, _, _, rfl, rfl, ⟨by decide, by decide, by decide⟩, _, _, rfl, rfl, _, rfl, ite2 (fun e => ?_) (fun e => ?_)⟩
    · refine ⟨_, rfl, _, rfl, _, rfl, _, _, rfl, rfl, (show (0 : Int) < _ by first | decide | omega), _, rfl, _, _, rfl, rfl, (by unfold CMul; omega), _, _, rfl, rfl, _, _, rfl, rfl, _, _, rfl, rfl, (by unfold CMul; omega), _, _, rfl, rfl, (show (0 : Int) < _ by first | decide | omega), ?_⟩
      refine ⟨by show 2 ≤ sizeLine; decide, fun p np => fin2 p _ _ np (by omega) (by omega)⟩
    · refine ⟨_, rfl, _, rfl, _, _, rfl, rfl, (show (0 : Int) < _ by first | decide | omega), _, rfl, _, _, rfl, rfl, (by unfold CMul; omega), _, _, rfl, rfl, _, _, rfl, rfl, _, _, rfl, rfl, (by unfold CMul; omega), _, _, rfl, rfl, (show (0 : Int) < _ by first | decide | omega), ?_⟩
      refine ⟨by show 2 ≤ sizeLine; decide, fun p np => fin2 p _ _ np (by omega) (by omega)⟩
def sp_draw : Sp := fun vs H Q _ => ∃ (p : Addr) (L a b : Int), vs = [.ref p, .int L] ∧ H p = some (.lst [.int a, .int b]) ∧ 0 ≤ b ∧ b < 2147483648 ∧ 0 < L ∧ L < 1073741824 ∧
  ∀ (r : Int) (a' b' : Int), 0 ≤ r → r < L → 0 ≤ b' → b' < 2147483648 → Q (.int r) (upd H p (.lst [.int a', .int b']))
theorem ok_draw (T : Tp K mg) : FnOk P w K mg base CX0 1 T.f_law_draw T.fd_law_draw ["hand", "limit"] sp_draw := by
  refine T.F_law_draw.ok sc_law_draw (fun vs H Q E h => ?_) (fun cdv A outer s H vs Q E hr h => ?_)
  · obtain ⟨p, L, a, b, rfl, _⟩ := h
    rfl
  · obtain ⟨p, L, a, b, rfl, hp, b0, b1, L0, L1, q⟩ := h
    refine ⟨_, pss_cons (ps_if (pt_cmpR op_gt (pe_ix ix_list (pv 0) pe_int (fun _ _ => rfl)) pe_int (nomark _)) (pss_cons (ps_set (i := 2) sc_law_draw.nd rfl (.inl rfl) (pe_op op_mod (pe_ix ix_list (pv 0) pe_int (fun _ _ => rfl)) (pv 1)))
      (pss_cons (ps_asg (pe_op op_fdiv (pe_ix ix_list (pv 0) pe_int (fun _ _ => rfl)) (pv 1)) (pg_sub (pv 0) pe_int set_list))
      (pss_one (ps_ret (pv 2))))) (pss_nil))
      (pss_cons (ps_asg (pe_op op_mod (pe_op op_add (pe_op op_add (pe_op op_mul (pe_ix ix_list (pv 0) pe_int (fun _ _ => rfl)) (pe_ix ix_list (pv 0) pe_int (fun _ _ => rfl))) (pe_op op_mul pe_int (pe_ix ix_list (pv 0) pe_int (fun _ _ => rfl)))) pe_int) pe_int) (pg_sub (pv 0) pe_int set_list))
      (pss_one (ps_ret (pe_op op_mod (pe_op op_fdiv (pe_ix ix_list (pv 0) pe_int (fun _ _ => rfl)) pe_int) (pv 1))))), ?_⟩
    have g0 : atI [V.int a, V.int b] (0 : Int) = some (.int a) := atI_nat (j := 0) rfl
    have g1 : atI [V.int a, V.int b] (1 : Int) = some (.int b) := atI_nat (j := 1) rfl
    have hq : SqL K H p [V.int a, V.int b] := SqL.of hp
    refine ⟨_, rfl, p, _, _, _, rfl, rfl, hq, g0, _, _, rfl, rfl, _, rfl, ite2 (fun e => ?_) (fun e => ?_)⟩
    · refine ⟨_, rfl, p, _, _, _, rfl, rfl, hq, g0, _, rfl, _, _, rfl, rfl, L0, ?_⟩
      refine ⟨_, rfl, p, _, _, _, rfl, rfl, hq, g0, _, rfl, _, _, rfl, rfl, ⟨L0, L1⟩, _, rfl, p, _, _, 0, rfl, rfl, hp, rfl, _, rfl, ?_⟩
      exact q _ _ _ (Int.emod_nonneg _ (by omega)) (Int.emod_lt_of_pos _ L0) b0 b1
    · refine ⟨_, rfl, p, _, _, _, rfl, rfl, hq, g1, _, rfl, p, _, _, _, rfl, rfl, hq, g1, _, _, rfl, rfl, .inl ⟨by omega, by omega⟩, ?_⟩
      refine ⟨_, rfl, p, _, _, _, rfl, rfl, hq, g1, _, _, rfl, rfl, (by unfold CMul; omega), _, _, rfl, rfl, _, _, rfl, rfl, _, _, rfl, rfl, (show (0 : Int) < _ by first | decide | omega), ?_⟩
      refine ⟨_, rfl, p, _, _, 1, rfl, rfl, hp, rfl, ?_⟩
      have hM : ∀ z M : Int, 0 < M → M < 2147483648 → 0 ≤ z % M ∧ z % M < 2147483648 := fun z M h0 h1 => ⟨Int.emod_nonneg _ (by omega), by have := Int.emod_lt_of_pos z h0; omega⟩
      refine ⟨_, rfl, p, _, _, _, rfl, rfl, SqL.of upd_same, atI_nat (j := 1) rfl, _, _, rfl, rfl, ⟨by decide, by decide⟩, _, rfl, _, _, rfl, rfl, L0, ?_⟩
      exact q _ _ _ (Int.emod_nonneg _ (by omega)) (Int.emod_lt_of_pos _ L0) (hM _ _ (by decide) (by decide)).1 (hM _ _ (by decide) (by decide)).2
/-- law_cells: the first cells with their places -/
def sp_cells (K : PySem.W.Frag) : Sp := fun vs H Q _ => ∃ (a : Addr) (ns : List Int) (m : Nat), vs = [.ref a, .int m] ∧ SqL K H a (ns.map V.int) ∧ ns.length ≤ 63 ∧
  ∀ q Ts (ys : List Int) H', H q = none → Same H H' → ys.length ≤ 64 → EnumAt H' q Ts (ys.map V.int) → Q (.ref q) H'
theorem dpInts {H : Hp} : ∀ ns : List Int, DpAll K H (ns.map V.int) (ns.map PyData.int)
  | [] => .nil
  | n :: ns => .cons (.int n) (dpInts ns)
theorem ok_cells (T : Tp K mg) : FnOk P w K mg base CX0 1 T.f_law_cells T.fd_law_cells ["script", "many"] (sp_cells K) := by
  refine T.F_law_cells.ok sc_law_cells (fun vs H Q E h => ?_) (fun cdv A outer s H vs Q E hr h => ?_)
  · obtain ⟨a, ns, m, rfl, _⟩ := h
    rfl
  · obtain ⟨a, ns, m, rfl, hS, hl, q⟩ := h
    refine ⟨_, pss_one (ps_ret (pe_listEnum rfl (by rfl) T.z_list (by rfl) T.z_enumerate (pa_cons (pe_op op_cat (pe_slice sl_list (pv 0) po_none (po_some (pv 1))) (pe_op op_rep (pe_lst (pa_cons pe_int pa_nil)) (pe_callTy call_int1 (by rfl) T.z_int (by decide +kernel) (pa_cons (pe_cmpR (op_eqD hr.units) (pv 0) (pe_lst pa_nil) (nomark _)) pa_nil)))) pa_nil))), ?_⟩
    refine ⟨_, rfl, _, rfl, _, rfl, _, _, rfl, hS, fun p1 np1 => ?_⟩
    have s1 : Same H (upd H p1 (.lst (cutV (ns.map V.int) none (some (m : Int))))) := same_updX np1
    obtain ⟨ys, ey, ly⟩ : ∃ ys : List Int, cutV (ns.map V.int) none (some (m : Int)) = ys.map V.int ∧ ys.length ≤ 63 := by
      refine ⟨(ns.drop (HT.sIx ns.length 0 none)).take (HT.sIx ns.length ns.length (some (m : Int)) - HT.sIx ns.length 0 none), ?_, ?_⟩
      · unfold cutV
        rw [List.length_map, ← List.map_drop, ← List.map_take]
      · rw [List.length_take, List.length_drop]; omega
    rw [ey] at s1 ⊢
    generalize e1 : upd H p1 (.lst (ys.map V.int)) = H1 at s1 ⊢
    have h1 : H1 p1 = some (.lst (ys.map V.int)) := by rw [← e1]; exact upd_same
    refine ⟨by show 1 ≤ sizeLine; decide, fun p2 np2 => ?_⟩
    have s2 : Same H1 (upd H1 p2 (.lst [.int 0])) := same_updX np2
    generalize e2 : upd H1 p2 (.lst [.int 0]) = H2 at s2 ⊢
    have h2 : H2 p2 = some (.lst [.int 0]) := by rw [← e2]; exact upd_same
    refine ⟨_, rfl, by show 0 ≤ sizeLine; decide, fun p3 np3 => ?_⟩
    have s3 : Same H2 (upd H2 p3 (.lst [])) := same_updX np3
    generalize e3 : upd H2 p3 (.lst []) = H3 at s3 ⊢
    have h3 : H3 p3 = some (.lst []) := by rw [← e3]; exact upd_same
    refine ⟨.list (ns.map PyData.int), .list [], .lst (s3.seq (s2.seq (s1.seq hS))) (dpInts ns), .lst (SqL.of h3) .nil, (PySem.W.ke_shaped_ints ns), rfl, .inr ⟨_, rfl, ?_⟩⟩
    generalize PyData.eqv (.list (ns.map PyData.int)) (.list []) = b
    have hb : ∃ z : Nat, (if b then (1 : Int) else 0) = (z : Int) ∧ z ≤ 1 := by cases b; exact ⟨0, rfl, by omega⟩; exact ⟨1, rfl, by omega⟩
    obtain ⟨z, ez, lz⟩ := hb
    refine ⟨p2, _, _, rfl, rfl, s3 _ _ h2, ?_⟩
    rw [ez]
    refine ⟨by omega, by omega, by rw [sizeLine_eq]; show 1 * (z : Int).toNat ≤ _; omega, fun p4 np4 => ?_⟩
    have e5 : (List.replicate (z : Int).toNat [V.int 0]).flatten = (List.replicate z (0 : Int)).map V.int := by
      rw [Int.toNat_natCast]
      have : z = 0 ∨ z = 1 := by omega
      rcases this with rfl | rfl <;> rfl
    rw [e5]
    have s4 : Same H3 (upd H3 p4 (.lst ((List.replicate z (0 : Int)).map V.int))) := same_updX np4
    generalize e4 : upd H3 p4 (.lst ((List.replicate z (0 : Int)).map V.int)) = H4 at s4 ⊢
    have h4 : H4 p4 = some (.lst ((List.replicate z (0 : Int)).map V.int)) := by rw [← e4]; exact upd_same
    refine ⟨p1, p4, _, _, rfl, rfl, s4 _ _ (s3 _ _ (s2 _ _ h1)), h4, by rw [sizeLine_eq, List.length_map, List.length_map, List.length_replicate]; omega, fun p5 np5 => ?_⟩
    have s5 : Same H4 (upd H4 p5 (.lst (ys.map V.int ++ (List.replicate z (0 : Int)).map V.int))) := same_updX np5
    rw [← List.map_append] at s5 ⊢
    refine ⟨p5, (ys ++ List.replicate z 0).map V.int, rfl, SqL.of upd_same, fun q' Ts H' nq sm ea => ?_⟩
    have S : Same H H' := s1.trans (s2.trans (s3.trans (s4.trans (s5.trans sm))))
    exact q q' Ts _ H' ((s1.trans (s2.trans (s3.trans (s4.trans s5)))).free nq) S (by rw [List.length_append, List.length_replicate]; omega) ea
end
end Q

namespace PM
/-- no factor among a, a + 1, .. (2 ^ k of them) -/
def nodiv (n : Nat) : Nat → Nat → Bool
  | a, 0 => n % a != 0
  | a, k + 1 => nodiv n a k && nodiv n (a + 2 ^ k) k
theorem nodiv_ok {n : Nat} : ∀ {k a d : Nat}, nodiv n a k = true → a ≤ d → d < a + 2 ^ k → ¬ d ∣ n
  | 0, a, d, h, h1, h2 => by
    have : d = a := by simp at h2; omega
    subst this
    intro hd
    have := Nat.mod_eq_zero_of_dvd hd
    simp [nodiv, this] at h
  | k + 1, a, d, h, h1, h2 => by
    unfold nodiv at h
    rw [Bool.and_eq_true] at h
    by_cases q : d < a + 2 ^ k
    · exact nodiv_ok h.1 h1 q
    · exact nodiv_ok h.2 (by omega) (by rw [Nat.pow_succ] at h2; omega)
theorem pr_of_nodiv {n k : Nat} (h : nodiv n 2 k = true) (h1 : 2 + 2 ^ k ≤ n) (h2 : n < (2 + 2 ^ k) * (2 + 2 ^ k)) : Pr n := by
  have := Nat.pow_pos (n := k) (show 0 < 2 by decide)
  refine pr_of_root' (r := 1 + 2 ^ k) (by omega) (by rw [show 1 + 2 ^ k + 1 = 2 + 2 ^ k by omega]; exact h2) fun d hd hl _ => nodiv_ok h hd (by omega)
/-- the product of a, a + 2, a + 6, a + 8, .. -/
def pd (k : Nat) : Nat → Nat := Nat.rec (motive := fun _ => Nat → Nat) (fun a => Nat.mul a (Nat.add a 2)) (fun k ih a => Nat.mul (ih a) (ih (Nat.add a (Nat.mul 6 (Nat.pow 2 k))))) k
theorem pd_zero (a : Nat) : pd 0 a = a * (a + 2) := rfl
theorem pd_succ (k a : Nat) : pd (k + 1) a = pd k a * pd k (a + 6 * 2 ^ k) := rfl
theorem pd_dvd : ∀ {k a d : Nat}, a % 6 = 5 → a ≤ d → d < a + 6 * 2 ^ k → d % 6 = 5 ∨ d % 6 = 1 → d ∣ pd k a
  | 0, a, d, ha, h1, h2, h3 => by
    have e : d = a ∨ d = a + 2 := by simp at h2; omega
    rw [pd_zero]
    rcases e with rfl | rfl
    · exact Nat.dvd_mul_right _ _
    · exact Nat.dvd_mul_left _ _
  | k + 1, a, d, ha, h1, h2, h3 => by
    rw [pd_succ]
    by_cases q : d < a + 6 * 2 ^ k
    · exact Nat.dvd_trans (pd_dvd ha h1 q h3) (Nat.dvd_mul_right _ _)
    · exact Nat.dvd_trans (pd_dvd (k := k) (a := a + 6 * 2 ^ k) (by omega) (by omega) (by rw [Nat.pow_succ] at h2; omega) h3) (Nat.dvd_mul_left _ _)
theorem pr_of_pd {n k : Nat} (h : Nat.gcd (pd k 5) n = 1) (n2 : n % 2 ≠ 0) (n3 : n % 3 ≠ 0) (h2 : n < (5 + 6 * 2 ^ k) * (5 + 6 * 2 ^ k)) (hn : 2 ≤ n) : Pr n := by
  refine pr_of_root' (r := 4 + 6 * 2 ^ k) hn (by rw [show 4 + 6 * 2 ^ k + 1 = 5 + 6 * 2 ^ k by omega]; exact h2) fun d hd hl _ hdv => ?_
  have e2 : d % 2 ≠ 0 := fun z => n2 (Nat.mod_eq_zero_of_dvd (Nat.dvd_trans (Nat.dvd_of_mod_eq_zero z) hdv))
  have e3 : d % 3 ≠ 0 := fun z => n3 (Nat.mod_eq_zero_of_dvd (Nat.dvd_trans (Nat.dvd_of_mod_eq_zero z) hdv))
  have hg : d ∣ Nat.gcd (pd k 5) n := Nat.dvd_gcd (pd_dvd (by decide) (by omega) (by omega) (by omega)) hdv
  rw [h] at hg
  have := Nat.le_of_dvd (by decide) hg
  omega
theorem pr_great : Pr 999999999989 := pr_of_pd (k := 18) (by decide +kernel) (by decide) (by decide) (by decide) (by decide)
def known : List Nat := [2, 3, 5, 7, 11, 13, 17, 19, 23, 29, 31, 37, 41, 43, 47, 53, 59, 61, 67, 71, 73, 79, 83, 89, 97, 101, 103] ++ [941, 947, 953, 967, 971, 977, 983, 991, 997, 9949, 9967, 9973, 99971, 99989, 99991] ++
  [999907, 999917, 999931, 999953, 999959, 999961, 999979, 999983]
/-- a prime, by looking -/
def chk (n : Nat) : Bool := if n < 200 then decide (Pr n) else if n < 4000 then nodiv n 2 6 else nodiv n 2 10
theorem chk_ok {n : Nat} (h : chk n = true) (hn : n < 1000000) : Pr n := by
  unfold chk at h
  split at h
  · exact of_decide_eq_true h
  · split at h
    · exact pr_of_nodiv h (by simp; omega) (by simp; omega)
    · exact pr_of_nodiv h (by simp; omega) (by simp; omega)
theorem known_pr : ∀ n ∈ known, Pr n ∧ n < 1000000 := by
  have h : known.all (fun n => chk n && decide (n < 1000000)) = true := by decide +kernel
  intro n hn
  have h := List.all_eq_true.mp h n hn
  rw [Bool.and_eq_true] at h
  exact ⟨chk_ok h.1 (of_decide_eq_true h.2), of_decide_eq_true h.2⟩
end PM

namespace Q
open PySem L2 PM
def vN (xs : List Nat) : List V := xs.map fun (n : Nat) => V.int ((n : Nat) : Int)
theorem vN_get {xs : List Nat} {j : Nat} (h : j < xs.length) : (vN xs)[j]? = some (V.int (xs[j] : Nat)) := by
  unfold vN
  rw [List.getElem?_map, List.getElem?_eq_getElem h]
  rfl
theorem vN_len (xs : List Nat) : (vN xs).length = xs.length := by unfold vN; rw [List.length_map]
section
variable {P : Program} {w : World} {K : PySem.W.Frag} {mg : Str → Option Value} {base : Heap}
def sp_known : Sp := fun vs H Q _ => ∃ (p : Addr), vs = [.ref p] ∧ HandAt H p ∧ ∀ (n : Nat) H', Pr n → n < 1000000 → HandAt H' p → But p H H' → Q (.int n) H'
theorem ok_known (T : Tp K mg) : FnOk P w K mg base CX0 2 T.f_law_known T.fd_law_known ["hand"] sp_known := by
  have G_law_draw : FnOk P w K mg base CX0 1 T.f_law_draw T.fd_law_draw ["hand", "limit"] sp_draw := ok_draw T
  refine T.F_law_known.ok sc_law_known (fun vs H Q E h => ?_) (fun cdv A outer s H vs Q E hr h => ?_)
  · obtain ⟨p, rfl, _⟩ := h
    rfl
  · obtain ⟨p, rfl, ⟨a, b, hp, b0, b1⟩, q⟩ := h
    have hr_law_draw := hr
    refine ⟨_, pss_cons (ps_set (i := 1) sc_law_known.nd rfl (.inl rfl) (pe_lst (pa_cons pe_int (pa_cons pe_int (pa_cons pe_int (pa_cons pe_int (pa_cons pe_int (pa_cons pe_int (pa_cons pe_int (pa_cons pe_int (pa_cons pe_int (pa_cons pe_int (pa_cons pe_int (pa_cons pe_int (pa_cons pe_int (pa_cons pe_int (pa_cons pe_int (pa_cons pe_int (pa_cons pe_int (pa_cons pe_int (pa_cons pe_int (pa_cons pe_int (pa_cons pe_int (pa_cons pe_int (pa_cons pe_int (pa_cons pe_int (pa_cons pe_int (pa_cons pe_int (pa_cons pe_int pa_nil)))))))))))))))))))))))))))))
      (pss_cons (ps_set (i := 1) sc_law_known.nd rfl (.inl rfl) (pe_op op_cat (pv 1) (pe_lst (pa_cons pe_int (pa_cons pe_int (pa_cons pe_int (pa_cons pe_int (pa_cons pe_int (pa_cons pe_int (pa_cons pe_int (pa_cons pe_int (pa_cons pe_int (pa_cons pe_int (pa_cons pe_int (pa_cons pe_int (pa_cons pe_int (pa_cons pe_int (pa_cons pe_int pa_nil))))))))))))))))))
      (pss_cons (ps_set (i := 1) sc_law_known.nd rfl (.inl rfl) (pe_op op_cat (pv 1) (pe_lst (pa_cons pe_int (pa_cons pe_int (pa_cons pe_int (pa_cons pe_int (pa_cons pe_int (pa_cons pe_int (pa_cons pe_int (pa_cons pe_int pa_nil)))))))))))
      (pss_one (ps_ret (pe_ix ix_list (pv 1) (pe_call G_law_draw hr_law_draw (by rfl) T.m_law_draw T.F_law_draw.kp T.b_law_draw .nil pass0 (pa_cons (pv 0) (pa_cons (pe_callB call_len_seq (by rfl) T.z_len (by decide +kernel) (pa_cons (pv 1) pa_nil)) pa_nil))) (fun _ _ => rfl)))))), ?_⟩
    refine ⟨by show 27 ≤ sizeLine; decide, fun p1 np1 => ?_⟩
    generalize eL1 : ([V.int 2, V.int 3, V.int 5, V.int 7, V.int 11, V.int 13, V.int 17, V.int 19, V.int 23, V.int 29, V.int 31, V.int 37, V.int 41, V.int 43, V.int 47, V.int 53, V.int 59, V.int 61, V.int 67, V.int 71, V.int 73, V.int 79, V.int 83, V.int 89, V.int 97, V.int 101, V.int 103] : List V) = L1
    have s1 : Same H (upd H p1 (.lst L1)) := same_updX np1
    generalize e1 : upd H p1 (.lst L1) = H1 at s1 ⊢
    have h1 : H1 p1 = some (.lst L1) := by rw [← e1]; exact upd_same
    refine ⟨_, rfl, by show 15 ≤ sizeLine; decide, fun p2 np2 => ?_⟩
    generalize eL2 : ([V.int 941, V.int 947, V.int 953, V.int 967, V.int 971, V.int 977, V.int 983, V.int 991, V.int 997, V.int 9949, V.int 9967, V.int 9973, V.int 99971, V.int 99989, V.int 99991] : List V) = L2
    have s2 : Same H1 (upd H1 p2 (.lst L2)) := same_updX np2
    generalize e2 : upd H1 p2 (.lst L2) = H2 at s2 ⊢
    have h2 : H2 p2 = some (.lst L2) := by rw [← e2]; exact upd_same
    refine ⟨p1, p2, _, _, rfl, rfl, s2 _ _ h1, h2, by subst eL1 eL2; rw [sizeLine_eq]; decide, fun p3 np3 => ?_⟩
    have s3 : Same H2 (upd H2 p3 (.lst (L1 ++ L2))) := same_updX np3
    generalize e3 : upd H2 p3 (.lst (L1 ++ L2)) = H3 at s3 ⊢
    have h3 : H3 p3 = some (.lst (L1 ++ L2)) := by rw [← e3]; exact upd_same
    refine ⟨_, rfl, by show 8 ≤ sizeLine; decide, fun p4 np4 => ?_⟩
    generalize eL3 : ([V.int 999907, V.int 999917, V.int 999931, V.int 999953, V.int 999959, V.int 999961, V.int 999979, V.int 999983] : List V) = L3
    have s4 : Same H3 (upd H3 p4 (.lst L3)) := same_updX np4
    generalize e4 : upd H3 p4 (.lst L3) = H4 at s4 ⊢
    have h4 : H4 p4 = some (.lst L3) := by rw [← e4]; exact upd_same
    refine ⟨p3, p4, _, _, rfl, rfl, s4 _ _ h3, h4, by subst eL1 eL2 eL3; rw [sizeLine_eq]; decide, fun p5 np5 => ?_⟩
    have eK : L1 ++ L2 ++ L3 = vN known := by subst eL1 eL2 eL3; rfl
    rw [eK]
    have s5 : Same H4 (upd H4 p5 (.lst (vN known))) := same_updX np5
    generalize e5 : upd H4 p5 (.lst (vN known)) = H5 at s5 ⊢
    have h5 : H5 p5 = some (.lst (vN known)) := by rw [← e5]; exact upd_same
    have S : Same H H5 := s1.trans (s2.trans (s3.trans (s4.trans s5)))
    have np5' : H p5 = none := (s1.trans (s2.trans (s3.trans s4))).free np5
    have ne : p5 ≠ p := (ne_of_none hp np5').symm
    refine ⟨_, rfl, _, rfl, _, rfl, _, _, rfl, .inl (SqL.of h5), p, _, a, b, rfl, S _ _ hp, b0, b1, ?_, ?_, fun r a' b' r0 r1 b0' b1' => ?_⟩
    · rw [vN_len]; decide
    · rw [vN_len]; decide
    · rw [vN_len] at r1
      obtain ⟨j, rfl⟩ := Int.eq_ofNat_of_zero_le r0
      have hj : j < known.length := by omega
      have pr := known_pr known[j] (List.getElem_mem hj)
      exact ⟨p5, vN known, (j : Int), V.int (known[j] : Nat), rfl, rfl, SqL.of (by rw [upd_ne ne]; exact h5), atI_nat (vN_get hj), q _ _ pr.1 pr.2 ⟨a', b', upd_same, b0', b1'⟩ ((But.of_same S).trans (But.upd _))⟩
def sp_right : Sp := fun vs H Q _ => ∃ (n d : Nat), vs = [.int n, .int d] ∧ 2 ≤ n ∧ n ≤ 10 ^ 12 ∧ MF n d ∧ ∀ H', Same H H' → Q (.bl true) H'
theorem ok_right (T : Tp K mg) : FnOk P w K mg base CX0 3 T.f_law_right T.fd_law_right ["number", "due"] sp_right := by
  have G_least_prime : FnOk P w K mg base CX0 2 T.f_least_prime T.fd_least_prime ["number"] sp_least := ok_least T
  refine T.F_law_right.ok sc_law_right (fun vs H Q E h => ?_) (fun cdv A outer s H vs Q E hr h => ?_)
  · obtain ⟨n, d, rfl, _⟩ := h
    rfl
  · obtain ⟨n, d, rfl, h2, hn, hd, q⟩ := h
    have hr_least_prime := hr
    refine ⟨_, pss_cons (ps_for PassesOwn.never rfl (pi_range1 (by rfl) T.z_range (pa_cons pe_int pa_nil)) (pg_name (i := 2) sc_law_right.nd rfl (.inl rfl)) (pss_cons (ps_set (i := 3) sc_law_right.nd rfl (.inl rfl) (pe_call G_least_prime hr_least_prime (by rfl) T.m_least_prime T.F_least_prime.kp T.b_least_prime .nil pass0 (pa_cons (pv 0) pa_nil)))
      (pss_one (ps_if (PW.pt (pw_or (pt_val (pe_callB call_isi (by rfl) T.z_isinstance (by decide +kernel) (pa_cons (pv 3) (pa_cons (pe_bltn (v := .ty "bool") (by rfl) T.z_bool (by decide +kernel) rfl) pa_nil)))) (pw_or (pt_not (pt_val (pe_callB call_isi (by rfl) T.z_isinstance (by decide +kernel) (pa_cons (pv 3) (pa_cons (pe_bltn (v := .ty "int") (by rfl) T.z_int (by decide +kernel) rfl) pa_nil))))) (pw_or1 (pt_cmpR op_ne (pv 3) (pv 1) (nomark _)))))) (pss_one (ps_ret pe_bl)) (pss_nil)))))
      (pss_one (ps_ret pe_bl)), ?_⟩
    refine ⟨2, rfl, by decide, by decide, for_range (n := 2) (fun i σ H' => Same H H' ∧ ∃ y z, σ = [some (.int n), some (.int d), y, z]) ⟨Same.refl H, none, none, rfl⟩ ?_ ?_⟩
    · rintro i σ H' _ ⟨sm, y, z, rfl⟩
      refine ⟨_, rfl, n, rfl, h2, hn, fun d' H'' hd' sm' => ?_⟩
      rw [hd'.uniq hd]
      refine ⟨_, rfl, _, _, .type "int", _, false, rfl, .ty _, .base (.int _), kit_ty (by decide +kernel), _, rfl, iteF ?_⟩
      refine ⟨_, rfl, _, _, .type "int", _, true, rfl, .ty _, .base (.int _), kit_ty (by decide +kernel), _, rfl, iteF ?_⟩
      refine ⟨_, rfl, _, rfl, rfl, _, rfl, iteNS rfl ?_⟩
      exact ⟨sm.trans sm', _, _, rfl⟩
    · rintro σ H' ⟨sm, y, z, rfl⟩
      exact q _ sm
end
end Q

namespace Q
open PySem L2 PM
section
variable {P : Program} {w : World} {K : PySem.W.Frag} {mg : Str → Option Value} {base : Heap}
def sp_law (K : PySem.W.Frag) : Sp := fun vs H Q _ => ∃ (a : Addr) (ns : List Int), vs = [.ref a] ∧ SqL K H a (ns.map V.int) ∧ ns.length ≤ 63 ∧ ∀ H', Q (.bl true) H'
theorem HandAt.same {H H' : Hp} {p : Addr} (h : HandAt H p) (s : Same H H') : HandAt H' p := let ⟨a, b, e, r⟩ := h; ⟨a, b, s _ _ e, r⟩
theorem ok_law (T : Tp K mg) : FnOk P w K mg base CX0 4 T.f_law T.fd_law ["script"] (sp_law K) := by
  have G_law_draw : FnOk P w K mg base CX0 1 T.f_law_draw T.fd_law_draw ["hand", "limit"] sp_draw := ok_draw T
  have G_law_hand : FnOk P w K mg base CX0 1 T.f_law_hand T.fd_law_hand ["cell", "k"] sp_hand := ok_hand T
  have G_law_cells : FnOk P w K mg base CX0 1 T.f_law_cells T.fd_law_cells ["script", "many"] (sp_cells K) := ok_cells T
  have G_law_known : FnOk P w K mg base CX0 2 T.f_law_known T.fd_law_known ["hand"] sp_known := ok_known T
  have G_law_right : FnOk P w K mg base CX0 3 T.f_law_right T.fd_law_right ["number", "due"] sp_right := ok_right T
  refine T.F_law.ok sc_law (fun vs H Q E h => ?_) (fun cdv A outer s H vs Q E hr h => ?_)
  · obtain ⟨a, ns, rfl, _⟩ := h
    rfl
  · obtain ⟨a, ns, rfl, hS, hl, q⟩ := h
    have hr_law_draw := hr.mono (show 1 ≤ 3 by decide)
    have hr_law_hand := hr.mono (show 1 ≤ 3 by decide)
    have hr_law_cells := hr.mono (show 1 ≤ 3 by decide)
    have hr_law_known := hr.mono (show 2 ≤ 3 by decide)
    have hr_law_right := hr
    refine ⟨_, pss_cons (ps_for PassesOwn.never rfl (pi_list (pe_call G_law_cells hr_law_cells (by rfl) T.m_law_cells T.F_law_cells.kp T.b_law_cells .nil pass0 (pa_cons (pv 0) (pa_cons pe_int pa_nil)))) (pg_tup rfl (pgs_cons (pg_name (i := 1) sc_law.nd rfl (.inl rfl)) (pgs_cons (pg_name (i := 2) sc_law.nd rfl (.inl rfl)) pgs_nil))) (pss_cons (ps_set (i := 3) sc_law.nd rfl (.inl rfl) (pe_call G_law_hand hr_law_hand (by rfl) T.m_law_hand T.F_law_hand.kp T.b_law_hand .nil pass0 (pa_cons (pv 2) (pa_cons (pv 1) pa_nil))))
      (pss_cons (ps_for PassesOwn.never rfl (pi_list (pe_lst (pa_cons (pe_op op_add pe_int (pe_call G_law_draw hr_law_draw (by rfl) T.m_law_draw T.F_law_draw.kp T.b_law_draw .nil pass0 (pa_cons (pv 3) (pa_cons pe_int pa_nil)))) (pa_cons (pe_op op_add pe_int (pe_call G_law_draw hr_law_draw (by rfl) T.m_law_draw T.F_law_draw.kp T.b_law_draw .nil pass0 (pa_cons (pv 3) (pa_cons pe_int pa_nil)))) pa_nil)))) (pg_name (i := 4) sc_law.nd rfl (.inr rfl)) (pss_one (ps_if (pt_not (pt_val (pe_call G_law_right hr_law_right (by rfl) T.m_law_right T.F_law_right.kp T.b_law_right .nil pass0 (pa_cons (pv 4) (pa_cons (pe_ix ix_list (pe_lc (own := [("one", 8)]) rfl sc_law.nd (pi_range2 (by rfl) T.z_range (pa_cons pe_int (pa_cons (pe_op op_add (pv 4) pe_int) pa_nil))) (blkOk_by (own := [("one", 8)]) (N := ["script", "k", "cell", "hand", "number", "least", "turn", "prime", "one"]) (sc := defScope s_law) (by decide +kernel)) (fun _ _ _ _ _ => pg_name (i := 8) sc_law.nd rfl (Or.inl rfl)) (fun _ _ _ _ _ => pts_one (pt_cmpR op_eq (pe_op op_mod (pv 4) (pv 8)) pe_int (nomark _))) (fun _ _ _ _ _ => pv 8)) pe_int (fun _ _ => rfl)) pa_nil))))) (pss_one (ps_ret pe_bl)) (pss_nil))))
      (pss_cons (ps_set (i := 4) sc_law.nd rfl (.inr rfl) (pe_call G_law_known hr_law_known (by rfl) T.m_law_known T.F_law_known.kp T.b_law_known .nil pass0 (pa_cons (pv 3) pa_nil)))
      (pss_cons (ps_set (i := 5) sc_law.nd rfl (.inl rfl) (pv 4))
      (pss_cons (ps_for PassesOwn.never rfl (pi_range1 (by rfl) T.z_range (pa_cons (pe_op op_add pe_int (pe_call G_law_draw hr_law_draw (by rfl) T.m_law_draw T.F_law_draw.kp T.b_law_draw .nil pass0 (pa_cons (pv 3) (pa_cons pe_int pa_nil)))) pa_nil)) (pg_name (i := 6) sc_law.nd rfl (.inl rfl)) (pss_cons (ps_set (i := 7) sc_law.nd rfl (.inl rfl) (pe_ix ix_list (pe_lst (pa_cons (pe_call G_law_known hr_law_known (by rfl) T.m_law_known T.F_law_known.kp T.b_law_known .nil pass0 (pa_cons (pv 3) pa_nil)) (pa_cons (pv 5) pa_nil))) (pe_callTy call_int1 (by rfl) T.z_int (by decide +kernel) (pa_cons (pe_cmpR op_eq (pe_call G_law_draw hr_law_draw (by rfl) T.m_law_draw T.F_law_draw.kp T.b_law_draw .nil pass0 (pa_cons (pv 3) (pa_cons pe_int pa_nil))) pe_int (nomark _)) pa_nil)) (fun _ _ => rfl)))
      (pss_one (ps_if (pt_cmpR op_le (pe_op op_mul (pv 4) (pv 7)) (pe_op op_pow pe_int pe_int) (nomark _)) (pss_cons (ps_set (i := 4) sc_law.nd rfl (.inr rfl) (pe_op op_mul (pv 4) (pv 7)))
      (pss_one (ps_set (i := 5) sc_law.nd rfl (.inl rfl) (pe_callB (call_min2 rfl) (by rfl) T.z_min (by decide +kernel) (pa_cons (pv 5) (pa_cons (pv 7) pa_nil)))))) (pss_nil)))))
      (pss_one (ps_if (pt_not (pt_val (pe_call G_law_right hr_law_right (by rfl) T.m_law_right T.F_law_right.kp T.b_law_right .nil pass0 (pa_cons (pv 4) (pa_cons (pv 5) pa_nil))))) (pss_one (ps_ret pe_bl)) (pss_nil)))))))))
      (pss_one (ps_ret (pe_and (pe_call G_law_right hr_law_right (by rfl) T.m_law_right T.F_law_right.kp T.b_law_right .nil pass0 (pa_cons pe_int (pa_cons pe_int pa_nil))) (pe_and (pe_call G_law_right hr_law_right (by rfl) T.m_law_right T.F_law_right.kp T.b_law_right .nil pass0 (pa_cons (pe_op op_pow pe_int pe_int) (pa_cons pe_int pa_nil))) (pe_one (pe_call G_law_right hr_law_right (by rfl) T.m_law_right T.F_law_right.kp T.b_law_right .nil pass0 (pa_cons (pe_op op_mul pe_int pe_int) (pa_cons pe_int pa_nil)))))))), ?_⟩
    refine ⟨_, rfl, a, ns, 10, rfl, hS, hl, fun qa Ts ys H1 nq sm1 ly ea => ⟨qa, rfl, ⟨_, SqL.of ea.lst⟩, ?_⟩⟩
    refine for_list (K := K) (a := qa) (xs := Ts.map V.ref) (fun i σ H' => Same H1 H' ∧ ∃ y1 y2 y3 y4 y5 y6 y7 y8, σ = [some (.ref a), y1, y2, y3, y4, y5, y6, y7, y8]) ⟨Same.refl _, _, _, _, _, _, _, _, _, rfl⟩ (fun i σ H' _ z => z.1.seq (SqL.of ea.lst)) ?_ ?_
    · rintro i x σ H2 hx ⟨sm2, y1, y2, y3, y4, y5, y6, y7, y8, rfl⟩
      have hil : i < Ts.length := by
        have := (List.getElem?_eq_some_iff.mp hx).1
        rwa [List.length_map] at this
      have hxT : Ts[i]? = some Ts[i] := List.getElem?_eq_getElem hil
      rw [List.getElem?_map, hxT] at hx
      cases hx
      have hly : i < ys.length := by have := ea.len; rw [List.length_map] at this; omega
      have hy : (ys.map V.int)[i]? = some (V.int ys[i]) := by rw [List.getElem?_map, List.getElem?_eq_getElem hly]; rfl
      have htup := sm2 _ _ (ea.tup i _ _ hxT hy)
      refine ⟨_, _, rfl, SqT.of htup, rfl, _, _, rfl, _, _, rfl, rfl, ?_⟩
      -- hand = _law_hand(cell, k)
      refine ⟨_, rfl, _, rfl, _, _, rfl, by omega, by omega, fun p H3 np sm3 hh3 => ?_⟩
      have np1 : H1 p = none := sm2.free np
      have S3 : Same H1 H3 := sm2.trans sm3
      clear sm2 sm3 htup hy hxT
      -- the two small ones
      obtain ⟨a3, b3, hp3, b30, b31⟩ := hh3
      refine ⟨_, rfl, p, _, _, _, rfl, hp3, b30, b31, by decide, by decide, fun r1 a4 b4 r10 r11 b40 b41 => ?_⟩
      refine ⟨_, _, rfl, rfl, _, rfl, p, _, _, _, rfl, upd_same, b40, b41, by decide, by decide, fun r2 a5 b5 r20 r21 b50 b51 => ?_⟩
      rw [upd_upd]
      have S4 : Same H1 (upd H3 p (.lst [.int a5, .int b5])) := But.same np1 S3 (But.upd _)
      have hh4 : HandAt (upd H3 p (.lst [.int a5, .int b5])) p := ⟨a5, b5, upd_same, b50, b51⟩
      generalize upd H3 p (.lst [.int a5, .int b5]) = H4 at S4 hh4 ⊢
      refine ⟨_, _, rfl, rfl, by show 2 ≤ sizeLine; decide, fun p2 np2 => ⟨p2, rfl, ⟨_, SqL.of upd_same⟩, ?_⟩⟩
      obtain ⟨n1, rfl⟩ := Int.eq_ofNat_of_zero_le r10
      obtain ⟨n2, rfl⟩ := Int.eq_ofNat_of_zero_le r20
      have np2' : H1 p2 = none := S4.free np2
      have np2p : p2 ≠ p := by obtain ⟨_, _, e, _⟩ := hh4; exact (ne_of_none e np2).symm
      have S5 : Same H1 (upd H4 p2 (.lst [.int (2 + (n1 : Int)), .int (2 + (n2 : Int))])) := S4.trans (same_updX np2)
      have hh5 := hh4.same (same_updX (o := .lst [.int (2 + (n1 : Int)), .int (2 + (n2 : Int))]) np2)
      have hL : (upd H4 p2 (.lst [.int (2 + (n1 : Int)), .int (2 + (n2 : Int))])) p2 = some (.lst (vN [2 + n1, 2 + n2])) := upd_same
      generalize upd H4 p2 (.lst [.int (2 + (n1 : Int)), .int (2 + (n2 : Int))]) = H5 at S5 hh5 hL ⊢
      refine for_list (K := K) (a := p2) (xs := vN [2 + n1, 2 + n2]) (fun j σ H' => Same H1 H' ∧ HandAt H' p ∧ Same H5 H' ∧ ∃ y4 y5 y6 y7 y8, σ = [some (.ref a), some (.int (i : Nat)), some (.int ys[i]), some (.ref p), y4, y5, y6, y7, y8])
        ⟨S5, hh5, Same.refl _, _, _, _, _, _, rfl⟩ (fun j σ H' _ z => z.2.2.1.seq (SqL.of hL)) ?_ ?_
      · rintro j x σ H6 hx ⟨S6, hh6, T6, y4, y5, y6, y7, y8, rfl⟩
        obtain ⟨n, rfl, hn2, hnb⟩ : ∃ n : Nat, x = .int n ∧ 2 ≤ n ∧ n < 2000 := by
          match j, hx with
          | 0, hx => cases hx; exact ⟨_, rfl, by omega, by omega⟩
          | 1, hx => cases hx; exact ⟨_, rfl, by omega, by omega⟩
        refine ⟨_, rfl, _, rfl, _, _, rfl, rfl, 2, _, rfl, by omega, fun D nD => ?_⟩
        have en : ((n : Int) + 1 - 2).toNat = n - 1 := by omega
        refine lc_range (lo := 2) (n := ((n : Int) + 1 - 2).toNat) (fun i' H' => ∃ acc : List Nat, H' = upd H6 D (.lst (vN acc)) ∧ acc.length ≤ i' ∧ (acc = [] → ∀ d, 2 ≤ d → d < i' + 2 → ¬ d ∣ n) ∧ (∀ z zs, acc = z :: zs → MF n z))
          ⟨[], rfl, Nat.zero_le _, fun _ d h1 h2 => by omega, fun z zs h => by cases h⟩ ?_ ?_
        · rintro i' H7 hi' ⟨acc, rfl, hlen, hno, hmf⟩
          rw [en] at hi'
          have ed : (2 : Int) + (i' : Nat) = ((2 + i' : Nat) : Int) := by omega
          refine ⟨rfl, _, rfl, _, rfl, _, _, rfl, rfl, (show (0 : Int) < _ by omega), rfl, _, rfl, ?_⟩
          refine ite2 (fun e => ?_) (fun e => ?_)
          · have e := dec e
            rw [ed] at e
            have hd := mod0.mp e
            refine ⟨_, rfl, _, upd_same, by rw [sizeLine_eq, vN_len]; omega, acc ++ [2 + i'], ?_, by rw [List.length_append]; simp; omega, fun h => by simp at h, ?_⟩
            · rw [upd_upd]
              unfold vN
              rw [List.map_append, ed]
              rfl
            · intro z zs h
              cases acc with
              | nil =>
                cases h
                exact ⟨by omega, hd, fun e h1 h2 => hno rfl e h1 (by omega)⟩
              | cons z' zs' =>
                cases h
                exact hmf _ _ rfl
          · have e := ndec e
            rw [ed] at e
            refine ⟨acc, rfl, by omega, fun h d h1 h2 => ?_, hmf⟩
            by_cases q : d < i' + 2
            · exact hno h d h1 q
            · have : d = 2 + i' := by omega
              subst this
              exact fun z => e (mod0.mpr z)
        · rintro H7 ⟨acc, rfl, hlen, hno, hmf⟩
          rw [en] at hlen hno
          cases acc with
          | nil => exact absurd (Nat.dvd_refl n) (hno rfl n hn2 (by omega))
          | cons z zs =>
            have hz := hmf z zs rfl
            refine ⟨D, _, 0, .int (z : Nat), rfl, rfl, SqL.of upd_same, atI_nat (j := 0) rfl, n, z, rfl, hn2, by omega, hz, fun H8 sm8 => ?_⟩
            refine ⟨_, rfl, iteF ?_⟩
            have t8 : Same H6 H8 := (same_updX nD).trans sm8
            exact ⟨S6.trans t8, hh6.same t8, T6.trans t8, _, _, _, _, _, rfl⟩
      · rintro σ H6 ⟨S6, hh6, T6, y4, y5, y6, y7, y8, rfl⟩
        clear T6 hL hh4 S4 S5 hh5 S3 hp3 np2 np2' np2p
        -- number = _law_known(hand); least = number
        refine ⟨_, rfl, p, rfl, hh6, fun n0 H7 pr0 lt0 hh7 b7 => ?_⟩
        have S7 : Same H1 H7 := But.same np1 S6 b7
        refine ⟨_, rfl, ?_⟩
        -- for turn in range(1 + draw)
        obtain ⟨a7, b7', hp7, b70, b71⟩ := hh7
        refine ⟨_, rfl, p, _, _, _, rfl, hp7, b70, b71, by decide, by decide, fun r a8 b8 r0 r1 b80 b81 => ?_⟩
        have S8 : Same H1 (upd H7 p (.lst [.int a8, .int b8])) := But.same np1 S7 (But.upd _)
        have hh8 : HandAt (upd H7 p (.lst [.int a8, .int b8])) p := ⟨a8, b8, upd_same, b80, b81⟩
        generalize upd H7 p (.lst [.int a8, .int b8]) = H8 at S8 hh8 ⊢
        refine ⟨_, _, rfl, rfl, _, rfl, by omega, by omega, for_range (n := (1 + r).toNat) (fun j σ H' => Same H1 H' ∧ HandAt H' p ∧ ∃ (n l : Nat) (y6 y7 y8 : Option V), σ = [some (.ref a), some (.int (i : Nat)), some (.int ys[i]), some (.ref p), some (.int n), some (.int l), y6, y7, y8] ∧ MF n l ∧ n ≤ 10 ^ 12 ∧ 2 ≤ n ∧ Pr l ∧ l < 1000000)
          ⟨S8, hh8, n0, n0, _, _, _, rfl, MF.of_pr pr0, by omega, pr0.1, pr0, lt0⟩ ?_ ?_⟩
        · rintro j σ H9 _ ⟨S9, hh9, n, l, y6, y7, y8, rfl, hmf, hn, hn2, prl, ltl⟩
          -- prime = [_law_known(hand), least][int(_law_draw(hand, 4) == 0)]
          refine ⟨_, rfl, p, rfl, hh9, fun n1 H10 pr1 lt1 hh10 b10 => ?_⟩
          have S10 : Same H1 H10 := But.same np1 S9 b10
          refine ⟨_, rfl, by show 2 ≤ sizeLine; decide, fun pl npl => ?_⟩
          have hh11 := hh10.same (same_updX (o := .lst [.int (n1 : Nat), .int (l : Nat)]) npl)
          have S11 := S10.trans (same_updX (o := .lst [.int (n1 : Nat), .int (l : Nat)]) npl)
          have hpl : (upd H10 pl (.lst [.int (n1 : Nat), .int (l : Nat)])) pl = some (.lst [.int (n1 : Nat), .int (l : Nat)]) := upd_same
          have nepl : pl ≠ p := by obtain ⟨_, _, e, _⟩ := hh10; exact (ne_of_none e npl).symm
          generalize upd H10 pl (.lst [.int (n1 : Nat), .int (l : Nat)]) = H11 at S11 hh11 hpl ⊢
          obtain ⟨a11, b11, hp11, b110, b111⟩ := hh11
          refine ⟨_, rfl, p, _, _, _, rfl, hp11, b110, b111, by decide, by decide, fun r2 a12 b12 r20 r21 b120 b121 => ?_⟩
          have S12 : Same H1 (upd H11 p (.lst [.int a12, .int b12])) := But.same np1 S11 (But.upd _)
          have hh12 : HandAt (upd H11 p (.lst [.int a12, .int b12])) p := ⟨a12, b12, upd_same, b120, b121⟩
          have hpl2 : (upd H11 p (.lst [.int a12, .int b12])) pl = some (.lst [.int (n1 : Nat), .int (l : Nat)]) := by rw [upd_ne nepl]; exact hpl
          generalize upd H11 p (.lst [.int a12, .int b12]) = H12 at S12 hh12 hpl2 ⊢
          refine ⟨rfl, .inr ⟨_, rfl, ?_⟩⟩
          obtain ⟨pm, hpm, prm, ltm⟩ : ∃ pm : Nat, atI [V.int (n1 : Nat), V.int (l : Nat)] (if (decide (V.int r2 = V.int 0)) = true then (1 : Int) else 0) = some (.int (pm : Nat)) ∧ Pr pm ∧ pm < 1000000 := by
            by_cases h : decide (V.int r2 = V.int 0) = true
            · rw [if_pos h]; exact ⟨l, atI_nat (j := 1) rfl, prl, ltl⟩
            · rw [if_neg h]; exact ⟨n1, atI_nat (j := 0) rfl, pr1, lt1⟩
          refine ⟨pl, _, _, _, rfl, rfl, SqL.of hpl2, hpm, ?_⟩
          -- if number * prime <= 10 ** 12
          refine ⟨_, rfl, _, rfl, _, _, rfl, rfl, (by unfold CMul; omega), _, _, rfl, rfl, ⟨by decide, by decide, by decide⟩, _, _, rfl, rfl, _, rfl, ite2 (fun e => ?_) (fun e => ?_)⟩
          · have e := dec e
            have e : n * pm ≤ 10 ^ 12 := by
              have : (10 : Int) ^ Int.toNat 12 = 1000000000000 := by decide
              rw [this] at e
              omega
            refine ⟨_, rfl, _, rfl, _, _, rfl, rfl, (by unfold CMul; omega), _, rfl, _, rfl, _, _, rfl, ?_⟩
            have em : (if ((pm : Nat) : Int) < ((l : Nat) : Int) then ((pm : Nat) : Int) else ((l : Nat) : Int)) = ((min l pm : Nat) : Int) := by
              by_cases h : pm < l
              · rw [if_pos (by omega)]; omega
              · rw [if_neg (by omega)]; omega
            have hle : 2 * 1 ≤ n * pm := Nat.mul_le_mul hn2 (by have := prm.1; omega)
            refine ⟨S12, hh12, n * pm, min l pm, some (.int (0 + (j : Nat))), some (.int (pm : Nat)), y8, ?_, hmf.mul prm, e, by omega, ?_, by omega⟩
            · rw [em, Int.natCast_mul]; rfl
            · rcases Nat.le_total l pm with z | z
              · rw [Nat.min_eq_left z]; exact prl
              · rw [Nat.min_eq_right z]; exact prm
          · exact ⟨S12, hh12, n, l, _, _, _, rfl, hmf, hn, hn2, prl, ltl⟩
        · rintro σ H9 ⟨S9, hh9, n, l, y6, y7, y8, rfl, hmf, hn, hn2, prl, ltl⟩
          refine ⟨_, rfl, _, rfl, n, l, rfl, hn2, hn, hmf, fun H10 sm10 => ⟨_, rfl, iteF ?_⟩⟩
          exact ⟨S9.trans sm10, _, _, _, _, _, _, _, _, rfl⟩
    · rintro σ H2 ⟨sm2, y1, y2, y3, y4, y5, y6, y7, y8, rfl⟩
      refine ⟨999999999989, 999999999989, rfl, by decide, by decide, MF.of_pr pr_great, fun H3 _ => ⟨_, rfl, iteT ?_⟩⟩
      refine ⟨_, _, rfl, rfl, ⟨by decide, by decide, by decide⟩, 10 ^ 12, 2, rfl, by decide, by decide, ⟨by decide, by decide, fun e h1 h2 => by omega⟩, fun H4 _ => ⟨_, rfl, iteT ?_⟩⟩
      refine ⟨_, _, rfl, rfl, (by unfold CMul; omega), 999983 * 999979, 999979, rfl, by decide, by decide, ?_, fun H5 _ => q _⟩
      have p1 := (known_pr 999983 (by decide)).1
      have p2 := (known_pr 999979 (by decide)).1
      exact (MF.of_pr p1).mul p2
end
end Q

namespace Q
open PySem L2
theorem all_mk {l : PySem.W.OpenLaw} {w : World} {K : PySem.W.Frag} {h : Heap} {mg : Str → Option Value} {fa : Addr} (X : K.In h) (G : h.Ns mainGlobals mg) (hfa : mg "law" = some (.ref fa))
    {f0 f1 f2 f3 f4 f5 f6 f7 : Addr}
    {od0 an0 od1 an1 od2 an2 od3 an3 od4 an4 od5 an5 od6 an6 od7 an7 : Option Addr} {sl0 sl1 sl2 sl3 sl4 sl5 sl6 sl7 : Array (Option Value)} {oc0 kV0 dc0 pm0 cd0 ct0 oc1 kV1 dc1 pm1 cd1 ct1 oc2 kV2 dc2 pm2 cd2 ct2 oc3 kV3 dc3 pm3 cd3 ct3 oc4 kV4 dc4 pm4 cd4 ct4 oc5 kV5 dc5 pm5 cd5 ct5 oc6 kV6 dc6 pm6 cd6 ct6 oc7 kV7 dc7 pm7 cd7 ct7 : Value}
    (a0 : PySem.W.nsIn K mainGlobals "root" = some (some (.ref f0))) (l0 : K.lookup f0 = some ⟨oc0, od0, .func (PySem.W.fnOf "root" "root" (defArgs s_root) (defBody s_root) (defScope s_root) .none kV0 dc0 pm0 an0 cd0 ct0), sl0⟩) (c0 : PySem.W.codeIn K cd0 "root" = true) (k0 : PySem.W.keepIn K (.ref f0) = true)
    (a1 : PySem.W.nsIn K mainGlobals "least_prime" = some (some (.ref f1))) (l1 : K.lookup f1 = some ⟨oc1, od1, .func (PySem.W.fnOf "least_prime" "least_prime" (defArgs s_least_prime) (defBody s_least_prime) (defScope s_least_prime) .none kV1 dc1 pm1 an1 cd1 ct1), sl1⟩) (c1 : PySem.W.codeIn K cd1 "least_prime" = true) (k1 : PySem.W.keepIn K (.ref f1) = true)
    (a2 : PySem.W.nsIn K mainGlobals "_law_hand" = some (some (.ref f2))) (l2 : K.lookup f2 = some ⟨oc2, od2, .func (PySem.W.fnOf "_law_hand" "_law_hand" (defArgs s_law_hand) (defBody s_law_hand) (defScope s_law_hand) .none kV2 dc2 pm2 an2 cd2 ct2), sl2⟩) (c2 : PySem.W.codeIn K cd2 "_law_hand" = true) (k2 : PySem.W.keepIn K (.ref f2) = true)
    (a3 : PySem.W.nsIn K mainGlobals "_law_draw" = some (some (.ref f3))) (l3 : K.lookup f3 = some ⟨oc3, od3, .func (PySem.W.fnOf "_law_draw" "_law_draw" (defArgs s_law_draw) (defBody s_law_draw) (defScope s_law_draw) .none kV3 dc3 pm3 an3 cd3 ct3), sl3⟩) (c3 : PySem.W.codeIn K cd3 "_law_draw" = true) (k3 : PySem.W.keepIn K (.ref f3) = true)
    (a4 : PySem.W.nsIn K mainGlobals "_law_cells" = some (some (.ref f4))) (l4 : K.lookup f4 = some ⟨oc4, od4, .func (PySem.W.fnOf "_law_cells" "_law_cells" (defArgs s_law_cells) (defBody s_law_cells) (defScope s_law_cells) .none kV4 dc4 pm4 an4 cd4 ct4), sl4⟩) (c4 : PySem.W.codeIn K cd4 "_law_cells" = true) (k4 : PySem.W.keepIn K (.ref f4) = true)
    (a5 : PySem.W.nsIn K mainGlobals "_law_known" = some (some (.ref f5))) (l5 : K.lookup f5 = some ⟨oc5, od5, .func (PySem.W.fnOf "_law_known" "_law_known" (defArgs s_law_known) (defBody s_law_known) (defScope s_law_known) .none kV5 dc5 pm5 an5 cd5 ct5), sl5⟩) (c5 : PySem.W.codeIn K cd5 "_law_known" = true) (k5 : PySem.W.keepIn K (.ref f5) = true)
    (a6 : PySem.W.nsIn K mainGlobals "_law_right" = some (some (.ref f6))) (l6 : K.lookup f6 = some ⟨oc6, od6, .func (PySem.W.fnOf "_law_right" "_law_right" (defArgs s_law_right) (defBody s_law_right) (defScope s_law_right) .none kV6 dc6 pm6 an6 cd6 ct6), sl6⟩) (c6 : PySem.W.codeIn K cd6 "_law_right" = true) (k6 : PySem.W.keepIn K (.ref f6) = true)
    (a7 : PySem.W.nsIn K mainGlobals "law" = some (some (.ref f7))) (l7 : K.lookup f7 = some ⟨oc7, od7, .func (PySem.W.fnOf "law" "law" (defArgs s_law) (defBody s_law) (defScope s_law) .none kV7 dc7 pm7 an7 cd7 ct7), sl7⟩) (c7 : PySem.W.codeIn K cd7 "law" = true) (k7 : PySem.W.keepIn K (.ref f7) = true)
    (z0 : PySem.W.nsIn K mainGlobals "bool" = some none)
    (z1 : PySem.W.nsIn K mainGlobals "enumerate" = some none)
    (z2 : PySem.W.nsIn K mainGlobals "int" = some none)
    (z3 : PySem.W.nsIn K mainGlobals "isinstance" = some none)
    (z4 : PySem.W.nsIn K mainGlobals "len" = some none)
    (z5 : PySem.W.nsIn K mainGlobals "list" = some none)
    (z6 : PySem.W.nsIn K mainGlobals "min" = some none)
    (z7 : PySem.W.nsIn K mainGlobals "range" = some none)
    : ∃ fd : FuncData, (∀ (s : Shared) (v : Value), BindsTo s fd ⟨[v], []⟩ [("script", v)]) ∧ ∀ base : Heap, K.In base → base.Ns mainGlobals mg → FnOk l.prog w K mg base CX0 4 fa fd ["script"] (sp_law K) := by
  have e := hfa.symm.trans (PySem.W.mg_of X G a7)
  cases e
  have F0 := fun_mk (st := s_root) l0 c0 k0
  have b0 := F0.binds (ps := ["number"]) fun _ _ _ _ _ _ us hl => match us, hl with | [_], _ => rfl
  have F1 := fun_mk (st := s_least_prime) l1 c1 k1
  have b1 := F1.binds (ps := ["number"]) fun _ _ _ _ _ _ us hl => match us, hl with | [_], _ => rfl
  have F2 := fun_mk (st := s_law_hand) l2 c2 k2
  have b2 := F2.binds (ps := ["cell", "k"]) fun _ _ _ _ _ _ us hl => match us, hl with | [_, _], _ => rfl
  have F3 := fun_mk (st := s_law_draw) l3 c3 k3
  have b3 := F3.binds (ps := ["hand", "limit"]) fun _ _ _ _ _ _ us hl => match us, hl with | [_, _], _ => rfl
  have F4 := fun_mk (st := s_law_cells) l4 c4 k4
  have b4 := F4.binds (ps := ["script", "many"]) fun _ _ _ _ _ _ us hl => match us, hl with | [_, _], _ => rfl
  have F5 := fun_mk (st := s_law_known) l5 c5 k5
  have b5 := F5.binds (ps := ["hand"]) fun _ _ _ _ _ _ us hl => match us, hl with | [_], _ => rfl
  have F6 := fun_mk (st := s_law_right) l6 c6 k6
  have b6 := F6.binds (ps := ["number", "due"]) fun _ _ _ _ _ _ us hl => match us, hl with | [_, _], _ => rfl
  have F7 := fun_mk (st := s_law) l7 c7 k7
  have b7 := F7.binds (ps := ["script"]) fun _ _ _ _ _ _ us hl => match us, hl with | [_], _ => rfl
  let T : Tp K mg := ⟨f0, _, F0, b0, PySem.W.mg_of X G a0, f1, _, F1, b1, PySem.W.mg_of X G a1, f2, _, F2, b2, PySem.W.mg_of X G a2, f3, _, F3, b3, PySem.W.mg_of X G a3, f4, _, F4, b4, PySem.W.mg_of X G a4, f5, _, F5, b5, PySem.W.mg_of X G a5, f6, _, F6, b6, PySem.W.mg_of X G a6, fa, _, F7, b7, hfa, PySem.W.mg_none_of X G z0, PySem.W.mg_none_of X G z1, PySem.W.mg_none_of X G z2, PySem.W.mg_none_of X G z3, PySem.W.mg_none_of X G z4, PySem.W.mg_none_of X G z5, PySem.W.mg_none_of X G z6, PySem.W.mg_none_of X G z7⟩
  exact ⟨PySem.W.fnOf "law" "law" (defArgs s_law) (defBody s_law) (defScope s_law) .none kV7 dc7 pm7 an7 cd7 ct7, fun s v => .of_eq rfl, fun base _ _ => ok_law T⟩
end Q
open PySem PySem.W PyProof.Rows
set_option maxHeartbeats 0 in
theorem PySem.Challenge.cw_untoldprimes_k08_least_primes_holds : PySem.Challenge.rw_untoldprimes_k08_least_primes.Holds := by
  w_on; o_law; k_head; (case hw => w_witness2)
  k_fill
  refine L2.walk_of (l := PySem.Challenge.rw_untoldprimes_k08_least_primes) (n := 63) (k := 4) (x := "script") (CX := fun _ => L2.CX0) (sp := fun w => Q.sp_law _) rfl (by decide) rfl ⟨rfl, by decide, by decide⟩ (fun w h Y => PySem.W.kIn_of Y) ?F (fun _ _ a ns hl _ hS => ⟨a, ns, rfl, hS, hl, fun _ => rfl⟩) (fun _ _ _ _ _ h => h)
  case F =>
    intro w mg fa h KX G hmg
    refine' Q.all_mk KX G hmg ?a0 ?l0 ?c0 ?k0 ?a1 ?l1 ?c1 ?k1 ?a2 ?l2 ?c2 ?k2 ?a3 ?l3 ?c3 ?k3 ?a4 ?l4 ?c4 ?k4 ?a5 ?l5 ?c5 ?k5 ?a6 ?l6 ?c6 ?k6 ?a7 ?l7 ?c7 ?k7 ?z0 ?z1 ?z2 ?z3 ?z4 ?z5 ?z6 ?z7
    (case a0 => k_is)
    (case l0 => k_is)
    (case c0 => k_is)
    (case k0 => k_is)
    (case a1 => k_is)
    (case l1 => k_is)
    (case c1 => k_is)
    (case k1 => k_is)
    (case a2 => k_is)
    (case l2 => k_is)
    (case c2 => k_is)
    (case k2 => k_is)
    (case a3 => k_is)
    (case l3 => k_is)
    (case c3 => k_is)
    (case k3 => k_is)
    (case a4 => k_is)
    (case l4 => k_is)
    (case c4 => k_is)
    (case k4 => k_is)
    (case a5 => k_is)
    (case l5 => k_is)
    (case c5 => k_is)
    (case k5 => k_is)
    (case a6 => k_is)
    (case l6 => k_is)
    (case c6 => k_is)
    (case k6 => k_is)
    (case a7 => k_is)
    (case l7 => k_is)
    (case c7 => k_is)
    (case k7 => k_is)
    (case z0 => k_is)
    (case z1 => k_is)
    (case z2 => k_is)
    (case z3 => k_is)
    (case z4 => k_is)
    (case z5 => k_is)
    (case z6 => k_is)
    (case z7 => k_is)

