import PyProof.Rows.All
import Wide.All
import OpenK.AllK
import Wide.FinOn
import PySem.Challenge.RW_pq1014_01
set_option Elab.async false
set_option linter.unusedVariables false
set_option linter.unusedSimpArgs false
set_option linter.unusedSectionVars false
namespace Mine
def NSpec (n : Int) (g : Nat) (r : Int) : Prop := 2*(n - r*2^g) ≤ 2^g ∧ -(2^g) ≤ 2*(n - r*2^g) ∧ ((2*(n - r*2^g) = 2^g ∨ 2*(n - r*2^g) = -2^g) → r % 2 = 0)
def RndG (p : Nat) (m : Int) (g : Nat) (r : Int) : Prop := (g = 0 ∧ r = m ∧ m.natAbs < 2^p) ∨ (1 ≤ g ∧ 2^(p-1+g) ≤ m.natAbs ∧ m.natAbs < 2^(p+g) ∧ NSpec m g r)
def Rnd (p : Nat) (x y : Int) : Prop := ∃ g r, RndG p x g r ∧ y = r*2^g
def FF (p : Nat) (x : Int) : Prop := ∃ (q : Int) (k : Nat), x = q * 2 ^ k ∧ q.natAbs ≤ 2 ^ p
def Bin (p : Nat) (x : Int) (g : Nat) : Prop := x.natAbs < 2^(p+g) ∧ (g ≠ 0 → 2^(p-1+g) ≤ x.natAbs)

theorem pw (k : Nat) : ((2^k : Nat) : Int) = (2:Int)^k := by simp
theorem pwpos (k : Nat) : (0:Int) < 2^k := Int.pow_pos (by decide)
theorem pwle {a b : Nat} (h : a ≤ b) : 2^a ≤ 2^b := Nat.pow_le_pow_right (by decide) h
theorem pwleI {a b : Nat} (h : a ≤ b) : (2:Int)^a ≤ 2^b := by
  rw [← pw, ← pw]; exact Int.ofNat_le.mpr (pwle h)
theorem pwlt {a b : Nat} (h : 2^a < 2^b) : a < b := (Nat.pow_lt_pow_iff_right (by decide)).mp h
theorem pwadd (a b : Nat) : (2:Int)^(a+b) = 2^a * 2^b := Int.pow_add 2 a b
theorem pwdvd {a b : Nat} (h : a ≤ b) : (2:Int)^a ∣ 2^b := ⟨2^(b-a), by rw [← pwadd]; congr 1; omega⟩
theorem natAbs_mul_pw (q : Int) (k : Nat) : (q * 2^k).natAbs = q.natAbs * 2^k := by
  rw [Int.natAbs_mul, Int.natAbs_pow]; rfl
theorem natAbs_pw (k : Nat) : ((2:Int)^k).natAbs = 2^k := by rw [Int.natAbs_pow]; rfl

variable {p : Nat}
theorem bin_ex (hp : 1 ≤ p) (x : Int) : ∃ g, Bin p x g := by
  by_cases h : x.natAbs < 2^p
  · exact ⟨0, by simpa using h, fun h => absurd rfl h⟩
  · have h0 : x.natAbs ≠ 0 := by have := Nat.pow_pos (n := p) (show 0 < 2 by decide); omega
    refine ⟨Nat.log2 x.natAbs + 1 - p, ?_, fun _ => ?_⟩
    · have h1 := @Nat.lt_log2_self x.natAbs
      exact Nat.lt_of_lt_of_le h1 (pwle (by omega))
    · have h1 := Nat.log2_self_le h0
      refine Nat.le_trans (pwle ?_) h1
      have h2 : 2^p < 2^(Nat.log2 x.natAbs + 1) := Nat.lt_of_le_of_lt (Nat.le_of_not_lt h) Nat.lt_log2_self
      have := pwlt h2
      omega
theorem bin_le {x : Int} {g k : Nat} (hp : 1 ≤ p) (h : Bin p x g) (hx : x.natAbs < 2^(p+k)) : g ≤ k := by
  by_cases h0 : g = 0
  · lia
  · have := pwlt (Nat.lt_of_le_of_lt (h.2 h0) hx)
    omega
theorem bin_ge {x : Int} {g k : Nat} (hp : 1 ≤ p) (h : Bin p x g) (hx : 2^(p-1+k) ≤ x.natAbs) : k ≤ g := by
  have := pwlt (Nat.lt_of_le_of_lt hx h.1)
  omega
theorem bin_mono {x y : Int} {g k : Nat} (hp : 1 ≤ p) (h : Bin p x g) (h' : Bin p y k) (hxy : x.natAbs ≤ y.natAbs) : g ≤ k :=
  bin_le hp h (Nat.lt_of_le_of_lt hxy h'.1)
theorem rndG_iff {x r : Int} {g : Nat} : RndG p x g r ↔ Bin p x g ∧ NSpec x g r := by
  constructor
  · rintro (⟨rfl, rfl, h⟩ | ⟨h1, h2, h3, h4⟩)
    · refine ⟨⟨by simpa using h, fun h => absurd rfl h⟩, ?_, ?_, ?_⟩ <;> simp
    · exact ⟨⟨h3, fun _ => h2⟩, h4⟩
  · rintro ⟨⟨h1, h2⟩, h3, h4, h5⟩
    by_cases h0 : g = 0
    · subst h0
      refine .inl ⟨rfl, ?_, by simpa using h1⟩
      simp at h3 h4
      lia
    · exact .inr ⟨by lia, h2 h0, h1, h3, h4, h5⟩
theorem ff_dvd {x : Int} {k : Nat} (hd : (2:Int)^k ∣ x) (hx : x.natAbs ≤ 2^(p+k)) : FF p x := by
  obtain ⟨q, rfl⟩ := hd
  refine ⟨q, k, Int.mul_comm _ _, ?_⟩
  rw [Int.mul_comm, natAbs_mul_pw, Nat.pow_add] at hx
  exact Nat.le_of_mul_le_mul_right hx (Nat.pow_pos (by decide))
theorem ff_bin {x : Int} {g : Nat} (hp : 1 ≤ p) (h : FF p x) (hb : Bin p x g) : (2:Int)^g ∣ x := by
  obtain ⟨q, k, rfl, hq⟩ := h
  by_cases hk : g ≤ k
  · exact Int.dvd_trans (pwdvd hk) ⟨q, Int.mul_comm _ _⟩
  · have h1 := hb.2 (by lia)
    rw [natAbs_mul_pw] at h1
    have h2 : q.natAbs * 2^k ≤ 2^(p+k) := by rw [Nat.pow_add]; exact Nat.mul_le_mul_right _ hq
    have h3 : 2^(p+k) ≤ 2^(p-1+g) := pwle (by lia)
    have h4 : (q * 2^k).natAbs = 2^(p-1+g) := by rw [natAbs_mul_pw]; omega
    have h5 : (2:Int)^g ∣ 2^(p-1+g) := pwdvd (by lia)
    have h6 : q * 2^k = 2^(p-1+g) ∨ q * 2^k = -2^(p-1+g) := by
      have := pw (p-1+g)
      omega
    rcases h6 with h6 | h6 <;> rw [h6]
    · exact h5
    · exact Int.dvd_neg.mpr h5
theorem ff_neg {x : Int} (h : FF p x) : FF p (-x) := by
  obtain ⟨q, k, rfl, hq⟩ := h
  exact ⟨-q, k, by rw [Int.neg_mul], by rw [Int.natAbs_neg]; exact hq⟩
theorem ff_mul {x : Int} {j : Nat} (h : FF p x) : FF p (x * 2^j) := by
  obtain ⟨q, k, rfl, hq⟩ := h
  exact ⟨q, k + j, by rw [pwadd, Int.mul_assoc], hq⟩
theorem ff_unmul {x : Int} {j : Nat} (h : FF p (x * 2^j)) : FF p x := by
  obtain ⟨q, k, e, hq⟩ := h
  have hj := pwpos j
  by_cases hk : j ≤ k
  · refine ⟨q, k - j, ?_, hq⟩
    have e2 : (2:Int)^k = 2^(k-j) * 2^j := by rw [← pwadd]; congr 1; lia
    rw [e2, ← Int.mul_assoc] at e
    exact Int.eq_of_mul_eq_mul_right (by omega) e
  · refine ⟨x, 0, by simp, ?_⟩
    have e2 : (2:Int)^j = 2^(j-k) * 2^k := by rw [← pwadd]; congr 1; lia
    rw [e2, ← Int.mul_assoc] at e
    have e3 : x * 2^(j-k) = q := Int.eq_of_mul_eq_mul_right (by have := pwpos k; omega) e
    have e4 : q.natAbs = x.natAbs * 2^(j-k) := by rw [← e3, natAbs_mul_pw]
    have e5 : x.natAbs * 1 ≤ x.natAbs * 2^(j-k) := Nat.mul_le_mul_left _ (Nat.pow_pos (by decide))
    lia
theorem spec_bound {x r : Int} {g : Nat} (h : NSpec x g r) : 2 * (x - r*2^g).natAbs ≤ 2^g := by
  have := pw g
  obtain ⟨h1, h2, _⟩ := h
  omega
/-- a multiple of 2^g is no nearer to x -/
theorem spec_near {x r t : Int} {g : Nat} (h : NSpec x g r) : (x - r*2^g).natAbs ≤ (x - t*2^g).natAbs := by
  have hb := spec_bound h
  by_cases ht : t = r
  · rw [ht]; exact Nat.le_refl _
  · have h1 : (r*2^g - t*2^g).natAbs = (r-t).natAbs * 2^g := by rw [← Int.sub_mul, natAbs_mul_pw]
    have h2 : 1 * 2^g ≤ (r-t).natAbs * 2^g := Nat.mul_le_mul_right _ (by lia)
    omega
theorem rnd_near {x y f : Int} (hp : 1 ≤ p) (h : Rnd p x y) (hf : FF p f) : (x - y).natAbs ≤ (x - f).natAbs := by
  obtain ⟨g, r, hg, rfl⟩ := h
  obtain ⟨hb, hs⟩ := rndG_iff.mp hg
  by_cases hd : (2:Int)^g ∣ f
  · obtain ⟨t, rfl⟩ := hd
    rw [Int.mul_comm]
    have := spec_near (t := t) hs
    rw [Int.mul_comm t] at this
    rw [Int.mul_comm]
    exact this
  · obtain ⟨q, k, rfl, hq⟩ := hf
    have hk : k < g := by
      apply Nat.lt_of_not_le
      intro hk
      exact hd (Int.dvd_trans (pwdvd hk) ⟨q, Int.mul_comm _ _⟩)
    have h1 := hb.2 (by lia)
    have h2 : (q * 2^k).natAbs ≤ 2^(p+k) := by rw [natAbs_mul_pw, Nat.pow_add]; exact Nat.mul_le_mul_right _ hq
    have h3 : 2^(p+k) ≤ 2^(p-1+g) := pwle (by lia)
    have h4 := spec_near (t := 2^(p-1)) hs
    have h5 := spec_near (t := -2^(p-1)) hs
    have e1 : (2:Int)^(p-1) * 2^g = 2^(p-1+g) := by rw [pwadd]
    have e2 : -(2:Int)^(p-1) * 2^g = -2^(p-1+g) := by rw [Int.neg_mul, e1]
    rw [e1] at h4
    rw [e2] at h5
    have h6 := pw (p-1+g)
    omega
theorem rnd_exact {x y : Int} (hp : 1 ≤ p) (h : Rnd p x y) (hf : FF p x) : y = x := by
  have := rnd_near hp h hf
  lia
theorem rnd_bin {x y : Int} (h : Rnd p x y) : ∃ g, Bin p x g ∧ (2:Int)^g ∣ y ∧ 2 * (x - y).natAbs ≤ 2^g := by
  obtain ⟨g, r, hg, rfl⟩ := h
  obtain ⟨hb, hs⟩ := rndG_iff.mp hg
  exact ⟨g, hb, ⟨r, Int.mul_comm _ _⟩, spec_bound hs⟩
theorem rnd_ff {x y : Int} (hp : 1 ≤ p) (h : Rnd p x y) : FF p y := by
  obtain ⟨g, hb, hd, he⟩ := rnd_bin h
  obtain ⟨r, rfl⟩ := hd
  refine ⟨r, g, Int.mul_comm _ _, ?_⟩
  apply Nat.le_of_not_lt
  intro hr
  have h1 : (2^p + 1) * 2^g ≤ (2^g * r).natAbs := by rw [Int.mul_comm, natAbs_mul_pw]; exact Nat.mul_le_mul_right _ hr
  have h2 := hb.1
  rw [Nat.add_mul, ← Nat.pow_add] at h1
  have := Nat.pow_pos (n := g) (show 0 < 2 by decide)
  omega
theorem rnd_dvd {x y : Int} {k : Nat} (h : Rnd p x y) (hd : (2:Int)^k ∣ x) : (2:Int)^k ∣ y := by
  obtain ⟨g, hb, hy, he⟩ := rnd_bin h
  by_cases hk : k ≤ g
  · exact Int.dvd_trans (pwdvd hk) hy
  · have hx : (2:Int)^g ∣ x := Int.dvd_trans (pwdvd (by lia)) hd
    have hxy : (2:Int)^g ∣ x - y := Int.dvd_sub hx hy
    obtain ⟨t, ht⟩ := hxy
    have : x = y := by
      have h1 : (x - y).natAbs = t.natAbs * 2^g := by rw [ht, Int.mul_comm, natAbs_mul_pw]
      have h2 : t = 0 := by
        apply Classical.byContradiction
        intro h0
        have h2 : 1 * 2^g ≤ t.natAbs * 2^g := Nat.mul_le_mul_right _ (by lia)
        have := Nat.pow_pos (n := g) (show 0 < 2 by decide)
        lia
      subst h2
      simp at ht
      lia
    rw [← this]; exact hd
theorem spec_uniq {x r t : Int} {g : Nat} (h : NSpec x g r) (h' : NSpec x g t) : r = t := by
  obtain ⟨a1, a2, a3⟩ := h
  obtain ⟨b1, b2, b3⟩ := h'
  have hg := pwpos g
  apply Classical.byContradiction
  intro hne
  have key : ∀ r t : Int, t < r → 2*(x - r*2^g) ≤ 2^g → -(2^g) ≤ 2*(x - r*2^g) → ((2*(x - r*2^g) = 2^g ∨ 2*(x - r*2^g) = -2^g) → r % 2 = 0) →
      2*(x - t*2^g) ≤ 2^g → -(2^g) ≤ 2*(x - t*2^g) → ((2*(x - t*2^g) = 2^g ∨ 2*(x - t*2^g) = -2^g) → t % 2 = 0) → False := by
    intro r t hlt a1 a2 a3 b1 b2 b3
    have h1 : (t+1) * 2^g ≤ r * 2^g := Int.mul_le_mul_of_nonneg_right (by lia) (by lia)
    rw [Int.add_mul, Int.one_mul] at h1
    have h2 : r * 2^g = t * 2^g + 2^g := by lia
    have h3 : (r - t - 1) * 2^g = 0 := by rw [Int.sub_mul, Int.sub_mul, Int.one_mul]; lia
    have h4 : r - t - 1 = 0 := by
      rcases Int.mul_eq_zero.mp h3 with h | h
      · exact h
      · lia
    have h5 := a3 (by lia)
    have h6 := b3 (by lia)
    omega
  rcases Int.lt_or_gt_of_ne hne with h | h
  · exact key t r h b1 b2 b3 a1 a2 a3
  · exact key r t h a1 a2 a3 b1 b2 b3
theorem rnd_uniq {x y z : Int} (hp : 1 ≤ p) (h : Rnd p x y) (h' : Rnd p x z) : y = z := by
  obtain ⟨g, r, hg, rfl⟩ := h
  obtain ⟨k, t, hk, rfl⟩ := h'
  obtain ⟨hb, hs⟩ := rndG_iff.mp hg
  obtain ⟨hb', hs'⟩ := rndG_iff.mp hk
  have e : g = k := Nat.le_antisymm (bin_mono hp hb hb' (Nat.le_refl _)) (bin_mono hp hb' hb (Nat.le_refl _))
  subst e
  rw [spec_uniq hs hs']
theorem rnd_mono {x y x' y' : Int} (hp : 1 ≤ p) (h : Rnd p x y) (h' : Rnd p x' y') (hx : x ≤ x') : y ≤ y' := by
  apply Classical.byContradiction
  intro hn
  have h1 := rnd_near hp h (rnd_ff hp h')
  have h2 := rnd_near hp h' (rnd_ff hp h)
  have : x = x' := by omega
  subst this
  have := rnd_uniq hp h h'
  lia
theorem rnd_neg {x y : Int} (h : Rnd p x y) : Rnd p (-x) (-y) := by
  obtain ⟨g, r, hg, rfl⟩ := h
  obtain ⟨hb, hs⟩ := rndG_iff.mp hg
  refine ⟨g, -r, rndG_iff.mpr ⟨⟨by rw [Int.natAbs_neg]; exact hb.1, fun h => by rw [Int.natAbs_neg]; exact hb.2 h⟩, ?_⟩, by rw [Int.neg_mul]⟩
  obtain ⟨h1, h2, h3⟩ := hs
  unfold NSpec
  rw [Int.neg_mul]
  refine ⟨by lia, by lia, fun h => ?_⟩
  have := h3 (by lia)
  lia
end Mine
namespace Mine
variable {p : Nat}
/-- the error of a sum of two floats is a float -/
theorem sum_err {a b y : Int} (hp : 1 ≤ p) (ha : FF p a) (hb : FF p b) (h : Rnd p (a + b) y) : FF p (a + b - y) := by
  have key : ∀ a b : Int, FF p a → FF p b → Rnd p (a + b) y → a.natAbs ≤ b.natAbs → FF p (a + b - y) := by
    intro a b ha hb h hab
    obtain ⟨g, hg⟩ := bin_ex hp a
    obtain ⟨k, hk⟩ := bin_ex hp b
    have hgk := bin_mono hp hg hk hab
    have da := ff_bin hp ha hg
    have db := Int.dvd_trans (pwdvd hgk) (ff_bin hp hb hk)
    have dx := Int.dvd_add da db
    have dy := rnd_dvd h dx
    have hn := rnd_near hp h hb
    have e : a + b - b = a := by lia
    rw [e] at hn
    exact ff_dvd (Int.dvd_sub dx dy) (Nat.le_trans hn (Nat.le_of_lt hg.1))
  rcases Nat.le_total a.natAbs b.natAbs with hab | hab
  · exact key a b ha hb h hab
  · have := key b a hb ha (by rw [Int.add_comm]; exact h) hab
    rw [Int.add_comm]; exact this
/-- Sterbenz -/
theorem sub_exact {a b : Int} (hp : 1 ≤ p) (ha : FF p a) (hb : FF p b) (h1 : a ≤ 2 * b) (h2 : b ≤ 2 * a) : FF p (a - b) := by
  obtain ⟨g, hg⟩ := bin_ex hp a
  obtain ⟨k, hk⟩ := bin_ex hp b
  have da := ff_bin hp ha hg
  have db := ff_bin hp hb hk
  rcases Nat.le_total g k with hgk | hgk
  · exact ff_dvd (Int.dvd_sub da (Int.dvd_trans (pwdvd hgk) db)) (Nat.le_trans (by lia : (a-b).natAbs ≤ a.natAbs) (Nat.le_of_lt hg.1))
  · exact ff_dvd (Int.dvd_sub (Int.dvd_trans (pwdvd hgk) da) db) (Nat.le_trans (by lia : (a-b).natAbs ≤ b.natAbs) (Nat.le_of_lt hk.1))
/-- the first difference of the fast sum is a float -/
theorem fast_ff {u v s : Int} (hp : 1 ≤ p) (hu : FF p u) (hv : FF p v) (huv : v.natAbs ≤ u.natAbs) (h : Rnd p (u + v) s) : FF p (s - u) := by
  obtain ⟨g, hg⟩ := bin_ex hp v
  obtain ⟨k, hk⟩ := bin_ex hp u
  have hgk := bin_mono hp hg hk huv
  have dv := ff_bin hp hv hg
  have du := ff_bin hp hu hk
  have dx : (2:Int)^g ∣ u + v := Int.dvd_add (Int.dvd_trans (pwdvd hgk) du) dv
  obtain ⟨c, hc, dc, he⟩ := rnd_bin h
  have hn := rnd_near hp h hu
  have e1 : u + v - u = v := by lia
  rw [e1] at hn
  by_cases hcg : c ≤ g
  · have hf : FF p (u + v) := ff_dvd (Int.dvd_trans (pwdvd hcg) dx) (Nat.le_of_lt hc.1)
    have := rnd_exact hp h hf
    subst this
    rw [e1]; exact hv
  · have hv2 := hg.1
    by_cases hk1 : g + 1 ≤ k
    · refine ff_dvd (k := g + 1) (Int.dvd_sub (Int.dvd_trans (pwdvd (by lia)) dc) (Int.dvd_trans (pwdvd hk1) du)) ?_
      have e2 : 2^(p+(g+1)) = 2 * 2^(p+g) := by rw [← Nat.add_assoc, Nat.pow_succ, Nat.mul_comm]
      omega
    · have hkg : k = g := by lia
      subst hkg
      have hu2 := hk.1
      have hc1 : c ≤ k + 1 := by
        refine bin_le hp hc ?_
        have e2 : 2^(p+(k+1)) = 2 * 2^(p+k) := by rw [← Nat.add_assoc, Nat.pow_succ, Nat.mul_comm]
        omega
      have hc2 : c = k + 1 := by lia
      subst hc2
      refine ff_dvd (k := k) (Int.dvd_sub (Int.dvd_trans (pwdvd (by lia)) dc) du) ?_
      have e3 : 2^(k+1) = 2 * 2^k := by rw [Nat.pow_succ, Nat.mul_comm]
      have hvb : v.natAbs + 2^k ≤ 2^(p+k) := by
        obtain ⟨t, rfl⟩ := dv
        rw [Int.mul_comm, natAbs_mul_pw, Nat.pow_add] at *
        have ht : t.natAbs < 2^p := Nat.lt_of_mul_lt_mul_right hv2
        have := Nat.mul_le_mul_right (2^k) ht
        rw [Nat.succ_mul] at this
        exact this
      omega
theorem bin_two {p g : Nat} : 2^(p+(g+1)) = 2 * 2^(p+g) := by rw [← Nat.add_assoc, Nat.pow_succ, Nat.mul_comm]
theorem two_sum {a b t bk ni l n r : Int} (hp : 2 ≤ p) (ha : FF p a) (hb : FF p b) (h1 : Rnd p (a + b) t) (h2 : Rnd p (t - a) bk) (h3 : Rnd p (t - bk) ni) (h4 : Rnd p (a - ni) l) (h5 : Rnd p (b - bk) n) (h6 : Rnd p (l + n) r) : a + b = t + r := by
  have hp1 : 1 ≤ p := by omega
  have ht := rnd_ff hp1 h1
  have hbk := rnd_ff hp1 h2
  have herr := sum_err hp1 ha hb h1
  -- the rest, once two differences are floats
  have fin : FF p (t - bk) → FF p (b - bk) → a + b = t + r := by
    intro f1 f2
    have e3 := rnd_exact hp1 h3 f1
    have e5 := rnd_exact hp1 h5 f2
    have f4 : FF p (a - ni) := by
      have := sum_err hp1 ht (ff_neg ha) (by rw [← Int.sub_eq_add_neg]; exact h2)
      have := ff_neg this
      have e : -(t + -a - bk) = a - ni := by lia
      rw [e] at this; exact this
    have e4 := rnd_exact hp1 h4 f4
    have e : l + n = a + b - t := by lia
    rw [e] at h6
    have := rnd_exact hp1 h6 herr
    lia
  rcases Nat.le_total b.natAbs a.natAbs with hab | hab
  · have f := fast_ff hp1 ha hb hab h1
    have e := rnd_exact hp1 h2 f
    refine fin ?_ ?_
    · have : t - bk = a := by lia
      rw [this]; exact ha
    · have : b - bk = a + b - t := by lia
      rw [this]; exact herr
  · by_cases hs : (a + b).natAbs ≤ a.natAbs
    · obtain ⟨g, hg⟩ := bin_ex hp1 a
      obtain ⟨k, hk⟩ := bin_ex hp1 b
      have hgk := bin_mono hp1 hg hk hab
      have f : FF p (a + b) := ff_dvd (Int.dvd_add (ff_bin hp1 ha hg) (Int.dvd_trans (pwdvd hgk) (ff_bin hp1 hb hk))) (Nat.le_trans hs (Nat.le_of_lt hg.1))
      have e := rnd_exact hp1 h1 f
      have e2 : t - a = b := by lia
      rw [e2] at h2
      have e3 := rnd_exact hp1 h2 hb
      refine fin ?_ ?_
      · have : t - bk = a := by lia
        rw [this]; exact ha
      · have : b - bk = 0 := by lia
        rw [this]; exact ⟨0, 0, by simp, by simp⟩
    · have hta : a.natAbs ≤ t.natAbs := by
        have n1 := rnd_near hp1 h1 ha
        have n2 := rnd_near hp1 h1 (ff_neg ha)
        omega
      have f1 := fast_ff hp1 ht (ff_neg ha) (by rw [Int.natAbs_neg]; exact hta) (by rw [← Int.sub_eq_add_neg]; exact h2)
      refine fin ?_ ?_
      · have := ff_neg f1
        have e : -(bk - t) = t - bk := by lia
        rw [e] at this; exact this
      · obtain ⟨g, hg⟩ := bin_ex hp1 b
        obtain ⟨c, hc, dc, he⟩ := rnd_bin h1
        obtain ⟨d, hd, dd, hde⟩ := rnd_bin h2
        have hg1 := hg.1
        have hc1 : c ≤ g + 1 := bin_le hp1 hc (by rw [bin_two]; omega)
        have hc2 : 2^c ≤ 2 * 2^g := by
          have := pwle hc1
          rw [Nat.pow_succ] at this
          lia
        have hn := rnd_near hp1 h2 hb
        have db := ff_bin hp1 hb hg
        by_cases hg0 : g = 0
        · refine ff_dvd (k := 0) ⟨b - bk, by simp⟩ ?_
          subst hg0
          have := pwle (show 1 ≤ p + 0 by omega)
          simp at hc2
          omega
        · have hg2 := hg.2 hg0
          have e1 : 2^(p-1+g) = 2 * 2^(p-1+(g-1)) := by
            have : p - 1 + g = p - 1 + (g-1) + 1 := by lia
            rw [this, Nat.pow_succ, Nat.mul_comm]
          have e2 : 2^g ≤ 2^(p-1+(g-1)) := pwle (by lia)
          have hdg : g - 1 ≤ d := by
            refine bin_ge hp1 hd ?_
            omega
          refine ff_dvd (k := g-1) (Int.dvd_sub (Int.dvd_trans (pwdvd (by omega)) db) (Int.dvd_trans (pwdvd hdg) dd)) ?_
          have e3 : 2^(g+1) ≤ 2^(p+(g-1)) := pwle (by lia)
          rw [Nat.pow_succ] at e3
          omega
end Mine
namespace Mine
theorem nspec_neg {x r : Int} {g : Nat} (h : NSpec x g r) : NSpec (-x) g (-r) := by
  obtain ⟨h1, h2, h3⟩ := h
  unfold NSpec
  rw [Int.neg_mul]
  exact ⟨by lia, by lia, fun h => by have := h3 (by lia); lia⟩
theorem odd_part : ∀ (j : Nat) (n : Int), n ≠ 0 → n.natAbs ≤ j → ∃ (k : Nat) (q : Int), n = q * 2 ^ k ∧ q % 2 = 1 := by
  intro j
  induction j with
  | zero => intro n h0 h; lia
  | succ j ih =>
    intro n h0 h
    by_cases h2 : n % 2 = 1
    · exact ⟨0, n, by simp, h2⟩
    · obtain ⟨k, q, e, hq⟩ := ih (n / 2) (by lia) (by omega)
      refine ⟨k + 1, q, ?_, hq⟩
      rw [Int.pow_succ, ← Int.mul_assoc, ← e]
      lia
theorem odd_dvd {n : Int} {c j : Nat} (h : n % 2 = 1) (hd : (2:Int)^c ∣ n * 2^j) : c ≤ j := by
  apply Nat.le_of_not_lt
  intro hlt
  obtain ⟨t, ht⟩ := hd
  have e : (2:Int)^c = 2^(c-j-1) * 2 * 2^j := by
    rw [show (2:Int)^(c-j-1) * 2 = 2^(c-j-1+1) from (Int.pow_succ 2 _).symm, ← pwadd]; congr 1; omega
  rw [e] at ht
  have h1 : n = 2^(c-j-1) * 2 * t := by
    have : n * 2^j = (2^(c-j-1) * 2 * t) * 2^j := by rw [ht]; simp only [Int.mul_assoc, Int.mul_comm, Int.mul_left_comm]
    exact Int.eq_of_mul_eq_mul_right (by have := pwpos j; omega) this
  have h2 : n = 2 * (2^(c-j-1) * t) := by rw [h1]; simp only [Int.mul_assoc, Int.mul_comm, Int.mul_left_comm]
  omega
variable {p : Nat}
theorem ff_odd {n : Int} (hp : 1 ≤ p) (h : FF p n) (ho : n % 2 = 1) : n.natAbs < 2^p := by
  obtain ⟨q, k, rfl, hq⟩ := h
  have hk : k = 0 := by
    apply Classical.byContradiction
    intro hk
    have : (2:Int)^k = 2 * 2^(k-1) := by rw [Int.mul_comm, ← Int.pow_succ]; congr 1; lia
    rw [this, Int.mul_left_comm] at ho
    omega
  subst hk
  simp at ho ⊢
  have e : 2^p = 2 * 2^(p-1) := by rw [Nat.mul_comm, ← Nat.pow_succ]; congr 1; lia
  omega
theorem rnd_of_ff {x : Int} (hp : 1 ≤ p) (h : FF p x) : Rnd p x x := by
  obtain ⟨g, hg⟩ := bin_ex hp x
  obtain ⟨t, ht⟩ := ff_bin hp h hg
  refine ⟨g, t, rndG_iff.mpr ⟨hg, ?_⟩, by rw [Int.mul_comm]; exact ht⟩
  have e : x - t * 2^g = 0 := by rw [Int.mul_comm t, ← ht]; lia
  unfold NSpec
  rw [e]
  have := pwpos g
  exact ⟨by lia, by omega, fun h => by lia⟩
/-- rounding does not see a common scale -/
theorem rnd_scale {m r : Int} {g j : Nat} (hp : 1 ≤ p) (h : RndG p m g r) : Rnd p (m * 2^j) (r * 2^(g+j)) := by
  rcases h with ⟨rfl, rfl, h⟩ | ⟨h1, h2, h3, h4, h5, h6⟩
  · rw [Nat.zero_add]
    exact rnd_of_ff hp ⟨r, j, rfl, Nat.le_of_lt h⟩
  · have hj := pwpos j
    refine ⟨g + j, r, .inr ⟨by lia, ?_, ?_, ?_, ?_, ?_⟩, rfl⟩
    · rw [natAbs_mul_pw, ← Nat.add_assoc, Nat.pow_add]; exact Nat.mul_le_mul_right _ h2
    · rw [natAbs_mul_pw, ← Nat.add_assoc, Nat.pow_add]; exact Nat.mul_lt_mul_of_pos_right h3 (Nat.pow_pos (by decide))
    all_goals
      have e : 2 * (m * 2^j - r * 2^(g+j)) = 2 * (m - r * 2^g) * 2^j := by
        rw [pwadd, ← Int.mul_assoc, Int.mul_assoc 2, Int.sub_mul]
      rw [e, pwadd]
    · exact Int.mul_le_mul_of_nonneg_right h4 (by lia)
    · rw [← Int.neg_mul]; exact Int.mul_le_mul_of_nonneg_right h5 (by lia)
    · intro h
      apply h6
      rw [← Int.neg_mul] at h
      rcases h with h | h
      · exact .inl (Int.eq_of_mul_eq_mul_right (by lia) h)
      · exact .inr (Int.eq_of_mul_eq_mul_right (by lia) h)
theorem spec_size {m r : Int} {g : Nat} (h : NSpec m g r) : r.natAbs * 2^g ≤ 2 * m.natAbs := by
  have h1 := spec_near (t := 0) h
  rw [← natAbs_mul_pw]
  omega
/-- a tiny addend of the sign s is told by s alone -/
theorem far_arith {M K X Y Z t U s : Int} (hs : s = 1 ∨ s = -1) (t1 : t < U) (t2 : -U < t) (h1 : s = 1 → 0 < t) (h2 : s = -1 → t < 0)
    (m1 : 2 * X - 4 * Y ≤ 2 * Z - (U + s * U)) (m2 : (U - s * U) - 2 * Z ≤ 2 * X - 4 * Y) (q1 : (U - s * U) + 2 * K ≤ 2 * X) (q2 : 2 * X ≤ 4 * K - (U + s * U)) :
    2 * (2 * X + t - 4 * Y) < 4 * Z ∧ -(4 * Z) < 2 * (2 * X + t - 4 * Y) ∧ 2 * K ≤ 2 * X + t ∧ 2 * X + t < 4 * K := by
  rcases hs with rfl | rfl
  · have h0 := h1 rfl
    clear h1 h2
    rw [Int.one_mul] at *
    refine ⟨?_, ?_, ?_, ?_⟩ <;> lia
  · have h0 := h2 rfl
    clear h1 h2
    rw [Int.neg_one_mul] at *
    refine ⟨?_, ?_, ?_, ?_⟩ <;> lia
theorem far_pos {V M s t r : Int} {u g : Nat} (hp : 2 ≤ p) (e : V = 2 * M + s) (hs : s = 1 ∨ s = -1) (hV : 0 < V) (hg : 2 ≤ g) (h : RndG p V g r) (ht : t.natAbs < 2^u) (h1 : s = 1 → 0 < t) (h2 : s = -1 → t < 0) : RndG p (2 * M * 2^u + t) (g + u) r := by
  obtain ⟨hb, n1, n2, _⟩ := rndG_iff.mp h
  have hu := pwpos u
  have hut := pw u
  have eg : (2:Int)^g = 4 * 2^(g-2) := by
    have : (2:Int)^g = 2^(g-2+2) := by congr 1; omega
    rw [this, pwadd]; exact Int.mul_comm _ _
  have e1 : 2^(p-1+g) = 2 * 2^(p-2+g) := by rw [Nat.mul_comm, ← Nat.pow_succ]; congr 1; omega
  have e2 : 2^(p+g) = 4 * 2^(p-2+g) := by
    have : 2^(p+g) = 2^(p-2+g+2) := by congr 1; omega
    rw [this, Nat.pow_add]; exact Nat.mul_comm _ _
  have hb1 := hb.1
  have hb2 := hb.2 (by omega)
  rw [e2] at hb1
  rw [e1] at hb2
  generalize hDe : (2:Int)^(g-2) = D at eg
  rw [eg, Int.mul_left_comm] at n1 n2
  have v1 : 2 * ((2^(p-2+g) : Nat) : Int) ≤ V := by clear n1 n2 ht hut; omega
  have v2 : V < 4 * ((2^(p-2+g) : Nat) : Int) := by clear n1 n2 ht hut; omega
  have t1 : t < 2^u ∧ -2^u < t := by clear n1 n2 hb1 hb2 v1 v2; omega
  generalize hEe : 2^(p-2+g) = E at e1 e2 v1 v2
  clear hb hb1 hb2 ht hut
  have f1 : 2^(p-1+(g+u)) = 2 * (E * 2^u) := by rw [← Nat.add_assoc, Nat.pow_add, e1, Nat.mul_assoc]
  have f2 : 2^(p+(g+u)) = 4 * (E * 2^u) := by rw [← Nat.add_assoc, Nat.pow_add, e2, Nat.mul_assoc]
  have f3 : ((E * 2^u : Nat) : Int) = (E : Int) * 2^u := by push_cast; rfl
  have f4 : (2:Int)^(g+u) = 4 * (D * 2^u) := by rw [pwadd, eg, Int.mul_assoc]
  have f5 : r * 2^(g+u) = 4 * (r * D * 2^u) := by rw [f4, Int.mul_left_comm, ← Int.mul_assoc r]
  have f6 : 2 * M * 2^u = 2 * (M * 2^u) := Int.mul_assoc _ _ _
  have mono : ∀ a b : Int, a ≤ b → a * 2^u ≤ b * 2^u := fun a b h => Int.mul_le_mul_of_nonneg_right h (Int.le_of_lt hu)
  have c1 : ∀ a b c d : Int, (2 * a - 4 * b) * 2^u = 2 * (a * 2^u) - 4 * (b * 2^u) := fun a b c d => by rw [Int.sub_mul, Int.mul_assoc, Int.mul_assoc]
  have c2 : ∀ a : Int, (2 * a - (1 + s)) * 2^u = 2 * (a * 2^u) - (2^u + s * 2^u) := fun a => by rw [Int.sub_mul, Int.mul_assoc, Int.add_mul, Int.one_mul]
  have c3 : ∀ a : Int, ((1 - s) - 2 * a) * 2^u = (2^u - s * 2^u) - 2 * (a * 2^u) := fun a => by rw [Int.sub_mul, Int.mul_assoc, Int.sub_mul, Int.one_mul]
  have c4 : ∀ a : Int, ((1 - s) + 2 * a) * 2^u = (2^u - s * 2^u) + 2 * (a * 2^u) := fun a => by rw [Int.add_mul, Int.mul_assoc, Int.sub_mul, Int.one_mul]
  have c5 : ∀ a : Int, (4 * a - (1 + s)) * 2^u = 4 * (a * 2^u) - (2^u + s * 2^u) := fun a => by rw [Int.sub_mul, Int.mul_assoc, Int.add_mul, Int.one_mul]
  have m1 := mono (2 * M - 4 * (r * D)) (2 * D - (1 + s)) (by clear v1 v2; omega)
  have m2 := mono ((1 - s) - 2 * D) (2 * M - 4 * (r * D)) (by clear v1 v2; omega)
  have q1 := mono ((1 - s) + 2 * (E : Int)) (2 * M) (by clear n1 n2; omega)
  have q2 := mono (2 * M) (4 * (E : Int) - (1 + s)) (by clear n1 n2; omega)
  rw [c1 _ _ 0 0, c2] at m1
  rw [c1 _ _ 0 0, c3] at m2
  rw [c4, Int.mul_assoc] at q1
  rw [c5, Int.mul_assoc] at q2
  obtain ⟨a1, a2, a3, a4⟩ := far_arith (M := M) hs t1.1 t1.2 h1 h2 m1 m2 q1 q2
  clear m1 m2 q1 q2 n1 n2 v1 v2 t1 h1 h2 c1 c2 c3 c4 c5 mono
  refine rndG_iff.mpr ⟨⟨?_, fun _ => ?_⟩, ?_, ?_, ?_⟩
  · rw [f2, f6]; omega
  · rw [f1, f6]; omega
  · rw [f5, f4, f6]; exact Int.le_of_lt a1
  · rw [f5, f4, f6]; exact Int.le_of_lt a2
  · rw [f5, f4, f6]
    intro h
    rcases h with h | h
    · exact absurd h (Int.ne_of_lt a1)
    · exact absurd h (Int.ne_of_gt a2)
theorem rndG_neg {x r : Int} {g : Nat} (h : RndG p x g r) : RndG p (-x) g (-r) := by
  obtain ⟨hb, hs⟩ := rndG_iff.mp h
  exact rndG_iff.mpr ⟨⟨by rw [Int.natAbs_neg]; exact hb.1, fun h => by rw [Int.natAbs_neg]; exact hb.2 h⟩, nspec_neg hs⟩
theorem far_rnd {M s t r : Int} {u g : Nat} (hp : 2 ≤ p) (hs : s = 1 ∨ s = -1) (hM : 2^(p+1) ≤ M.natAbs) (h : RndG p (2 * M + s) g r) (ht : t.natAbs < 2^u) (h1 : s = 1 → 0 < t) (h2 : s = -1 → t < 0) : RndG p (2 * M * 2^u + t) (g + u) r := by
  have hg : 2 ≤ g := by
    refine bin_ge (by lia) (rndG_iff.mp h).1 ?_
    have e1 : 2^(p-1+2) = 2^(p+1) := by congr 1; lia
    have := Nat.pow_pos (n := p+1) (show 0 < 2 by decide)
    omega
  have hpos := Nat.pow_pos (n := p+1) (show 0 < 2 by decide)
  by_cases hV : 0 < 2 * M + s
  · exact far_pos hp rfl hs hV hg h ht h1 h2
  · have h' := rndG_neg h
    have e : -(2 * M + s) = 2 * (-M) + (-s) := by lia
    rw [e] at h'
    have := far_pos (t := -t) (u := u) hp rfl (by lia) (by lia) hg h' (by lia) (by lia) (by lia)
    have h3 := rndG_neg this
    have e2 : -(2 * -M * 2^u + -t) = 2 * M * 2^u + t := by
      rw [Int.mul_neg, Int.neg_mul]; lia
    rw [e2, Int.neg_neg] at h3
    exact h3
end Mine
open PySem PySem.W PyProof.Rows
namespace Mine
noncomputable def view : Program := { PySem.Challenge.pw_pq1014_01 with main := { PySem.Challenge.pw_pq1014_01.main with body := ((PySem.Challenge.pw_pq1014_01.main.body.eraseIdx 29).eraseIdx 5).eraseIdx 0 } }
theorem law_said : PySem.Challenge.rw_pq1014_01.wellSaid = true := by
  rw [PySem.W.Fast.te9446332074065402090]
  unfold PySem.W.Fast.tw9446332074065402090
  repeat' (with_reducible refine look_both ?_ ?_)
  all_goals (try unfold PySem.W.Fast.tw17960256430627541270)
  repeat' (with_reducible refine look_both ?_ ?_)
  all_goals (try unfold PySem.W.Fast.tw2436336058641802641)
  repeat' (with_reducible refine look_both ?_ ?_)
  all_goals (try unfold PySem.W.Fast.tw12908688711261696721)
  repeat' (with_reducible refine look_both ?_ ?_)
  all_goals decide +kernel
noncomputable def bootT (P : Params) : BT := ((((((((((BT.nil.ins 0 (boot_o_0 P)).ins 1 (boot_o_1 P)).ins 2 (boot_o_2 P)).ins 3 (boot_o_3 P)).ins 4 (boot_o_4 P)).ins 5 (boot_o_5 P)).ins 6 (boot_o_6 P)).ins 7 (boot_o_7 P)).ins 8 (boot_o_8 P)).ins 9 (boot_o_9 P)).ins 10 (boot_o_10 P)
theorem boot_abs_tree (P : Params) : absHeap (bootT P) 11 {} = boot_heap P := by kernel_rfl!
theorem boot_size (P : Params) : ((boot_heap P).isNs mainGlobals, (boot_heap P).objs.size, (boot_heap P).nsMap mainGlobals "__annotations__") = (true, 11, some (Value.ref 6)) := by kernel_rfl!
theorem top_of_seg {tb : String → Option Builtin} {p : Program} {w : World} {n₀ : Nat} {ann : Option Value} : ∀ (n : Nat) (s : Shared) (t : Thread) (f : Flow) (s' : Shared) (c : Code) (q : Pos), segRun tb p w n₀ ann 0 n s t = some (f, s', c, q) → topRun tb p w n₀ ann n s t = some s'
  | 0, _, _, _, _, _, _, h => by simp [segRun] at h
  | n + 1, s, ⟨cur, code, pos, st⟩, f, s', c, q, h => by
    have tE : through ⟨cur, code, pos, st⟩ = (endAt 0 ⟨cur, code, pos, st⟩).isSome := by
      unfold through endAt
      cases st with
      | nil => cases cur <;> first | rfl | (rename_i x; cases x <;> rfl)
      | cons a b => rfl
    unfold segRun at h
    unfold topRun
    rw [tE]
    cases he : endAt 0 ⟨cur, code, pos, st⟩ with
    | some x =>
      rw [he] at h
      obtain ⟨_, rfl, _, _⟩ : x = f ∧ s = s' ∧ code = c ∧ pos = q := by simpa using h
      rfl
    | none =>
      rw [he] at h
      cases hk : stepOk n₀ ann ⟨cur, code, pos, st⟩ with
      | false => rw [hk] at h; cases h
      | true =>
        rw [hk] at h
        cases hs : step (denote tb) p w s ⟨cur, code, pos, st⟩ with
        | halt o s₂ => rw [hs] at h; cases h
        | go s₂ t₂ => rw [hs] at h; exact top_of_seg n s₂ t₂ f s' c q h
/-- The run of the top from the boot's tree. -/
noncomputable abbrev runT (p : Program) (w : World) (N : Nat) (os : OsState) := segRunT treeTable p w 11 (some (Value.ref 6)) 0 N ⟨bootT w.params, 11, {}, Array.mk [], boot_drawn, boot_toks, os⟩ (topStub p)
noncomputable abbrev runQ (p : Program) (w : World) (N : Nat) (os : OsState) := PySem.W.Fast.tw10110043849684766642 PySem.W.Fast.tw14364793385576792824 p w 11 (some (Value.ref 6)) 0 N ⟨bootT w.params, 11, {}, Array.mk [], boot_drawn, boot_toks, os⟩ (topStub p)
theorem runT_eq (p : Program) (w : World) (N : Nat) (os : OsState) : runT p w N os = runQ p w N os := by
  unfold runT runQ
  rw [PySem.W.Fast.te10110043849684766642, PySem.W.Fast.te14364793385576792824]
theorem left_of {p q : Program} {loose : List Str} {Xt : Shared → Bool} {α : Type} {Yf : Shared → α} {Ya : World → α} {N : Nat} {g0 : Bool} (e : opening p = plainProg p.main.scope.names) (hN : Nat.ble 600 N = true) (f : ∀ s, fenceModules? p s = some s)
    (key1 : ∀ (w : World) (os : OsState), (runQ p w N os).map (fun r => PySem.W.Fast.tw4187177175401517315 q loose (importedModules p.main.body) Xt g0 r.2.1.abs) = some (openGood q loose))
    (key2 : ∀ (w : World) (os : OsState), (runQ p w N os).map (fun r => (staticsOk (importedModules p.main.body) (boot_heap w.params) r.2.1.abs.heap && namesBound p r.2.1.abs.heap && gensDone r.2.1.abs && laidKept (boot_heap w.params) r.2.1.abs.heap, Yf r.2.1.abs)) = some (true, Ya w)) : LeftO p q loose Xt Yf Ya N g0 := fun w => by
  obtain ⟨⟨h, gs, d, k, os⟩, e, e'⟩ := Option.map_eq_some_iff.mp (boot_open e hN f w)
  obtain ⟨rfl, rfl, rfl, rfl⟩ : h = boot_heap w.params ∧ gs = Array.mk [] ∧ d = boot_drawn ∧ k = boot_toks := by simpa using e'
  obtain ⟨⟨fl, s1, c, ps⟩, r1, r2⟩ := Option.map_eq_some_iff.mp (key2 w os)
  have r3 := key1 w os
  rw [r1] at r3
  obtain ⟨c1, c2⟩ := Prod.mk.inj r2
  rw [← runT_eq] at r1
  have r4 := top_of_seg _ _ _ _ _ _ _ (segRun_of r1)
  have r5 : topRun treeTable p w 11 (some (Value.ref 6)) N ⟨boot_heap w.params, Array.mk [], boot_drawn, boot_toks, os⟩ (topStub p) = some s1.abs := by
    rw [← boot_abs_tree]
    exact r4
  obtain ⟨z1, z2, z3⟩ : _ ∧ _ ∧ _ := by simpa only [Prod.mk.injEq] using boot_size w.params
  have t : topFrom treeTable p w N ⟨boot_heap w.params, Array.mk [], boot_drawn, boot_toks, os⟩ = some s1.abs := by
    unfold topFrom
    dsimp only
    rw [z1, z2, z3, r5]
    show (match staticsOk (importedModules p.main.body) (boot_heap w.params) s1.abs.heap && namesBound p s1.abs.heap && gensDone s1.abs && laidKept (boot_heap w.params) s1.abs.heap with | true => _ | false => _) = _
    dsimp only at c1
    rw [c1]
  unfold openEnds
  rw [e]
  show (topFrom treeTable p w N ⟨boot_heap w.params, Array.mk [], boot_drawn, boot_toks, os⟩).map _ = _
  rw [t]
  show some (_, _) = some (_, _)
  rw [← PySem.W.Fast.te4187177175401517315] at r3
  have r6 : openSeen q loose (importedModules p.main.body) Xt g0 s1.abs = openGood q loose := Option.some.inj r3
  have c3 : Yf s1.abs = Ya w := c2
  rw [r6, c3]
theorem key1 (w : World) (os : OsState) : (runQ PySem.Challenge.pw_pq1014_01 w 4604 os).map (fun r => PySem.W.Fast.tw4187177175401517315 view [Str.ofString "REACH"] (importedModules PySem.Challenge.pw_pq1014_01.main.body) (fun s => xlAt view [(Str.ofString "REACH", WData.int 65536)] s && recOk (RowW.records (OpenRow.toRowW (OpenLaw.row PySem.Challenge.rw_pq1014_01))) s) true r.2.1.abs) = some (openGood view [Str.ofString "REACH"]) := by
  kernel_rfl!
local macro_rules | `(tactic| o_law) => `(tactic| (refine holds_law law_said fun said => ?_))
local macro_rules | `(tactic| o_head $H) => `(tactic| (refine holds_open (q := Mine.view) (loose := [Str.ofString "REACH"]) (Xt := fun s => xlAt Mine.view [(Str.ofString "REACH", WData.int 65536)] s && recOk (RowW.records (OpenRow.toRowW (OpenLaw.row PySem.Challenge.rw_pq1014_01))) s) (XP := XL Mine.view [(Str.ofString "REACH", WData.int 65536)]) (Yf := Hook.obs $H) (Ya := Hook.val $H) (YP := Hook.says $H) (N := 4604) ?hl (Hook.of $H) (Hook.keeps $H) (fun s e => xl_of s (Bool.and_eq_true_iff.mp e).1) XL.keeps (by rfl) (by rfl) (by rfl) (fun s e => recFacts_of (Bool.and_eq_true_iff.mp e).2) (by rfl) (by assumption) (by decide +kernel) ⟨rfl, rfl, rfl, rfl, rfl, by decide +kernel⟩ ?hw ?hc; (case hl => (refine left_of ?ha ?hb ?hcc ?hk ?hm; (case ha => kernel_rfl!); (case hb => exact rfl); (case hcc => (intro s; exact rfl)); (case hk => exact key1); (case hm => (intro w os; kernel_rfl!))))))
set_option maxRecDepth 100000 in
set_option maxHeartbeats 8000000 in
open_top hd for PySem.Challenge.rw_pq1014_01
end Mine
namespace Mine
abbrev rdict (w : World) (m e : Int) (t1 t2 t3 t4 : Tok) : List DictEntry := [⟨PyData.keyHash w.params (Str.ofString "mantissa"), .str (Str.ofString "mantissa") t1, .int m t3⟩, ⟨PyData.keyHash w.params (Str.ofString "exponent"), .str (Str.ofString "exponent") t2, .int e t4⟩]

section
variable {prog : Program} {w : World} {A : Around} {E : Value → Shared → Prop} {s : Shared} {h₀ : Heap} {L : Addr} {m : Str → Option Value} {news : List (Addr × Obj)} {a b c : Int} {t u v : Tok} {Q : Value → Shared → Prop}
theorem min2_gen (hh : A.handled = none) (F : Fr h₀ L s.heap m) (N : News h₀ L s.heap news)
    (h : ∀ lo t h' tk, lo ≤ a → lo ≤ b → (lo = a ∨ lo = b) → Fr h₀ L h' m → News h₀ L h' news → Q (.int lo t) { s with heap := h', toks := tk }) :
    wpAny (model prog w) A (call (.builtin "min") [.int a t, .int b u]) Q E s :=
  min_two_N hh F N fun h' tk F' N' => h _ _ h' tk (by split <;> lia) (by split <;> lia) (by split <;> simp) F' N'
theorem max2_gen (hh : A.handled = none) (F : Fr h₀ L s.heap m) (N : News h₀ L s.heap news)
    (h : ∀ hi t h' tk, a ≤ hi → b ≤ hi → (hi = a ∨ hi = b) → Fr h₀ L h' m → News h₀ L h' news → Q (.int hi t) { s with heap := h', toks := tk }) :
    wpAny (model prog w) A (call (.builtin "max") [.int a t, .int b u]) Q E s :=
  max_two_N hh F N fun h' tk F' N' => h _ _ h' tk (by split <;> lia) (by split <;> lia) (by split <;> simp) F' N'
theorem min3_gen (hh : A.handled = none) (F : Fr h₀ L s.heap m) (N : News h₀ L s.heap news)
    (h : ∀ lo t h' tk, lo ≤ a → lo ≤ b → lo ≤ c → (lo = a ∨ lo = b ∨ lo = c) → Fr h₀ L h' m → News h₀ L h' news → Q (.int lo t) { s with heap := h', toks := tk }) :
    wpAny (model prog w) A (call (.builtin "min") [.int a t, .int b u, .int c v]) Q E s := by
  refine min_three_ints hh fun h' tk hk => ?_
  have k := fun lo t h1 h2 h3 h4 => h lo t h' tk h1 h2 h3 h4 (F.grownK hk) (N.grown hk)
  by_cases hba : b < a <;> by_cases hc1 : c < b <;> by_cases hc2 : c < a <;> simp only [hba, hc1, hc2, if_true, if_false] <;> exact k _ _ (by lia) (by lia) (by lia) (by lia)
end
theorem news_pick {h₀ h : Heap} {L x d : Addr} {o o2 : Obj} {big news : List (Addr × Obj)} (N : News h₀ L h big) (h1 : (x, o) ∈ big) (h2 : (d, o2) ∈ big) (hs : ∀ p ∈ news, p ∈ big) : News h₀ L h ((x, o) :: (d, o2) :: news) := by
  intro p hp
  rcases List.mem_cons.mp hp with rfl | hp
  · exact N _ h1
  · rcases List.mem_cons.mp hp with rfl | hp
    · exact N _ h2
    · exact N _ (hs _ hp)
theorem low_pick {d : Addr} {big news : List (Addr × Obj)} (l : ∀ p ∈ big, p.1 < d) (hs : ∀ p ∈ news, p ∈ big) : ∀ p ∈ news, p.1 < d := fun p hp => l p (hs p hp)

def sz (n : Int) : Int := (Builtin.Int.intBits n : Nat)
theorem sz_abs (n : Int) : ((Builtin.Int.intBits (if n < 0 then -n else n) : Nat) : Int) = sz n := by
  unfold sz Builtin.Int.intBits
  split <;> simp
theorem sow_eq (n : Int) : b2i (decide (0 < n)) - b2i (decide (n < 0)) = Int.sign n := by
  unfold b2i
  rcases Int.lt_trichotomy n 0 with h | h | h
  · rw [Int.sign_eq_neg_one_of_neg h]; simp [h, Int.not_lt.mpr (Int.le_of_lt h)]
  · subst h; rfl
  · rw [Int.sign_eq_one_of_pos h]; simp [h, Int.not_lt.mpr (Int.le_of_lt h)]
theorem bits_pow (k : Nat) : Builtin.Int.intBits ((2:Int)^k) = k + 1 := by
  apply Nat.le_antisymm
  · rw [PySem.intBits_le_iff, natAbs_pw]; exact Nat.pow_lt_pow_right (by decide) (by omega)
  · apply Nat.le_of_not_lt
    intro h
    have := PySem.intBits_le_iff.mp (Nat.le_of_lt_succ h)
    rw [natAbs_pw] at this
    lia
theorem zb_spec (n : Int) (h0 : n ≠ 0) : ∃ (k : Nat) (q : Int), n = q * 2 ^ k ∧ q % 2 = 1 ∧ ((Builtin.Int.intBits (Builtin.bitAnd n (0 - n)) : Nat) : Int) - 1 = (k : Int) := by
  obtain ⟨k, q, e, hq⟩ := odd_part n.natAbs n h0 (Nat.le_refl _)
  refine ⟨k, q, e, hq, ?_⟩
  have e2 : n = 2 ^ k * (2 * (q / 2) + 1) := by
    have : 2 * (q / 2) + 1 = q := by lia
    rw [this, Int.mul_comm]; exact e
  have e3 : Builtin.bitAnd n (0 - n) = 2 ^ k := by
    rw [Int.zero_sub, e2]; exact PySem.W.kbt_low k (q / 2)
  rw [e3, bits_pow]
  lia
def LeanOf (m e m' e' : Int) : Prop := (m = 0 ∧ m' = 0 ∧ e' = 0) ∨ (m ≠ 0 ∧ m' % 2 = 1 ∧ ∃ k : Nat, e' = e + k ∧ m = m' * 2 ^ k)
def PlaceOk (m e : Int) : Prop := sz m + e ≤ 65536 ∧ -65536 ≤ sz m + e
theorem PlaceOk.no {m e : Int} (h : PlaceOk m e) : ¬ (65536 < if sz m + e < 0 then -(sz m + e) else sz m + e) := by
  obtain ⟨h1, h2⟩ := h
  split <;> lia
theorem leanOf_zero {n e : Int} (h : n = 0) : LeanOf n e 0 0 := .inl ⟨h, rfl, rfl⟩
theorem leanOf_shift {n e q : Int} {k : Nat} (h0 : n ≠ 0) (h : n = q * 2 ^ k) (hq : q % 2 = 1) : LeanOf n e (n.fdiv (2 ^ ((k : Int)).toNat)) (e + (k : Int)) := by
  have e : n.fdiv (2 ^ ((k : Int)).toNat) = q := by
    rw [Int.toNat_natCast, h]
    exact Int.mul_fdiv_cancel q (Int.ne_of_gt (pwpos k))
  rw [e]
  exact .inr ⟨h0, hq, k, rfl, h⟩
theorem near_setup {n g : Int} (h0 : 0 ≤ n) (h1 : 1 ≤ g) : ∃ q r H : Int, n.fdiv (2 ^ g.toNat) = q ∧ Builtin.bitAnd n (1 * 2 ^ g.toNat - 1) = r ∧ 1 * 2 ^ (g - 1).toNat = H ∧ (2:Int) ^ g.toNat = 2 * H ∧ n = q * (2 * H) + r ∧ 0 ≤ r ∧ r < 2 * H ∧ 0 < H := by
  have e : (2:Int) ^ g.toNat = 2 * 2 ^ (g - 1).toNat := by
    rw [Int.mul_comm, ← Int.pow_succ]; congr 1; lia
  have hp := pwpos (g - 1).toNat
  refine ⟨n / 2 ^ g.toNat, n % 2 ^ g.toNat, 2 ^ (g - 1).toNat, Int.fdiv_eq_ediv_of_nonneg _ (Int.le_of_lt (pwpos _)), ?_, Int.one_mul _, e, ?_, ?_, ?_, hp⟩
  · rw [Int.one_mul]; exact PySem.W.kbt_mask n g.toNat
  · rw [e, Int.mul_comm]; exact (Int.mul_ediv_add_emod n _).symm
  · exact Int.emod_nonneg _ (by omega)
  · rw [e]; exact Int.emod_lt_of_pos _ (by omega)
theorem near_up {n g : Int} (h0 : 0 ≤ n) (h1 : 1 ≤ g) (h : 1 * 2 ^ (g - 1).toNat < Builtin.bitAnd n (1 * 2 ^ g.toNat - 1)) : NSpec n g.toNat (n.fdiv (2 ^ g.toNat) + 1) := by
  obtain ⟨q, r, H, e1, e2, e3, e4, e5, r0, r1, hH⟩ := near_setup h0 h1
  rw [e2, e3] at h
  rw [e1]
  unfold NSpec
  rw [e4]

  rw [Int.add_mul, Int.one_mul]
  exact ⟨by lia, by lia, fun h => by lia⟩
theorem near_tu {n g : Int} (h0 : 0 ≤ n) (h1 : 1 ≤ g) (h : Builtin.bitAnd n (1 * 2 ^ g.toNat - 1) = 1 * 2 ^ (g - 1).toNat) (h2 : Builtin.bitAnd (n.fdiv (2 ^ g.toNat)) 1 = 1) : NSpec n g.toNat (n.fdiv (2 ^ g.toNat) + 1) := by
  obtain ⟨q, r, H, e1, e2, e3, e4, e5, r0, r1, hH⟩ := near_setup h0 h1
  rw [e2, e3] at h
  rw [e1]
  rw [e1, bitAnd_m1] at h2
  unfold NSpec
  rw [e4]

  rw [Int.add_mul, Int.one_mul]
  exact ⟨by lia, by lia, fun h => by lia⟩
theorem near_td {n g : Int} (h0 : 0 ≤ n) (h1 : 1 ≤ g) (h : Builtin.bitAnd n (1 * 2 ^ g.toNat - 1) = 1 * 2 ^ (g - 1).toNat) (h2 : Builtin.bitAnd (n.fdiv (2 ^ g.toNat)) 1 ≠ 1) : NSpec n g.toNat (n.fdiv (2 ^ g.toNat)) := by
  obtain ⟨q, r, H, e1, e2, e3, e4, e5, r0, r1, hH⟩ := near_setup h0 h1
  rw [e2, e3] at h
  rw [e1]
  rw [e1, bitAnd_m1] at h2
  unfold NSpec
  rw [e4]

  exact ⟨by lia, by lia, fun h => by lia⟩
theorem near_dn {n g : Int} (h0 : 0 ≤ n) (h1 : 1 ≤ g) (h : ¬ 1 * 2 ^ (g - 1).toNat < Builtin.bitAnd n (1 * 2 ^ g.toNat - 1)) (h2 : Builtin.bitAnd n (1 * 2 ^ g.toNat - 1) ≠ 1 * 2 ^ (g - 1).toNat) : NSpec n g.toNat (n.fdiv (2 ^ g.toNat)) := by
  obtain ⟨q, r, H, e1, e2, e3, e4, e5, r0, r1, hH⟩ := near_setup h0 h1
  rw [e2, e3] at h h2
  rw [e1]
  unfold NSpec
  rw [e4]

  exact ⟨by lia, by lia, fun h => by lia⟩
def SR (p m e m' e' : Int) : Prop := ∃ (g : Nat) (r : Int), RndG p.toNat m g r ∧ LeanOf r (e+g) m' e'
def rv (m e : Int) : Int := m * 2^(e+400).toNat
structure Num (p : Int) (l u : Nat) (m e : Int) : Prop where
  lt : m.natAbs < 2^p.toNat
  zero : m = 0 → e = 0
  lo : -(l:Int) ≤ e
  hi : e ≤ (u:Int)
structure Prec (p : Int) : Prop where
  lo : 2 ≤ p
  hi : p ≤ 13
def Big (m : Int) : Prop := m.natAbs < 2^200
theorem Big.sz {m : Int} (h : Big m) : 0 ≤ sz m ∧ sz m ≤ 200 := by
  unfold Mine.sz
  have := PySem.intBits_le_iff.mpr h
  lia
theorem sz_le {m : Int} {k : Nat} : sz m ≤ k ↔ m.natAbs < 2 ^ k := by
  unfold Mine.sz
  rw [← PySem.intBits_le_iff]
  omega
theorem sz_nonneg (m : Int) : 0 ≤ sz m := by unfold Mine.sz; lia
theorem placeOk_near {m e r : Int} {g : Int} (hm : Big m) (h1 : 1 ≤ g) (hg : g ≤ 1000) (he1 : -20000 ≤ e) (he2 : e ≤ 20000) (h : NSpec (if m < 0 then -m else m) g.toNat r) : PlaceOk (m.sign * r) (e + g) := by
  have hb := spec_size h
  have hm2 : (if m < 0 then -m else m).natAbs = m.natAbs := by split <;> lia
  rw [hm2] at hb
  have hg1 := Nat.pow_pos (n := g.toNat) (show 0 < 2 by decide)
  have hr : r.natAbs ≤ 2 * m.natAbs := by
    have : r.natAbs * 1 ≤ r.natAbs * 2 ^ g.toNat := Nat.mul_le_mul_left _ hg1
    lia
  have hs : (m.sign * r).natAbs ≤ r.natAbs := by
    rcases Int.lt_trichotomy m 0 with h | h | h
    · rw [Int.sign_eq_neg_one_of_neg h]; omega
    · subst h; simp
    · rw [Int.sign_eq_one_of_pos h]; lia
  have h3 : sz (m.sign * r) ≤ ((201 : Nat) : Int) := by
    rw [sz_le]
    have e : (2:Nat)^201 = 2 * 2^200 := by decide
    unfold Big at hm
    omega
  have h4 := sz_nonneg (m.sign * r)
  exact ⟨by omega, by lia⟩
theorem sr_exact {p m e m' e' : Int} (hp : Prec p) (h : sz m - p ≤ 0) (hl : LeanOf m e m' e') : SR p m e m' e' := by
  refine ⟨0, m, .inl ⟨rfl, rfl, ?_⟩, by simpa using hl⟩
  have := hp.lo
  exact sz_le.mp (by lia)
theorem sr_near {p m e r m' e' : Int} (hp : Prec p) (h : ¬ sz m - p ≤ 0) (hn : NSpec (if m < 0 then -m else m) (sz m - p).toNat r) (hl : LeanOf (m.sign * r) (e + (sz m - p)) m' e') : SR p m e m' e' := by
  have hlo := hp.lo
  have hsz : sz m = ((p.toNat + (sz m - p).toNat : Nat) : Int) := by lia
  refine ⟨(sz m - p).toNat, m.sign * r, .inr ⟨by omega, ?_, ?_, ?_⟩, ?_⟩
  · apply Nat.le_of_not_lt
    intro hlt
    have := sz_le.mpr hlt
    lia
  · exact sz_le.mp (Int.le_of_eq hsz)
  · rcases Int.lt_trichotomy m 0 with h0 | h0 | h0
    · rw [if_pos h0] at hn
      rw [Int.sign_eq_neg_one_of_neg h0, Int.neg_one_mul]
      have := nspec_neg hn
      rwa [Int.neg_neg] at this
    · subst h0
      exact absurd (show sz 0 - p ≤ 0 by have : sz 0 = 0 := rfl; lia) h
    · rw [if_neg (by lia)] at hn
      rw [Int.sign_eq_one_of_pos h0, Int.one_mul]
      exact hn
  · have : (((sz m - p).toNat : Nat) : Int) = sz m - p := by omega
    rw [this]; exact hl
theorem sign_natAbs (m : Int) : m.sign.natAbs < 2 ^ 64 := by
  rcases Int.lt_trichotomy m 0 with h | h | h
  · rw [Int.sign_eq_neg_one_of_neg h]; decide
  · subst h; decide
  · rw [Int.sign_eq_one_of_pos h]; decide
theorem mulOk_left {a b : Int} (h : a.natAbs < 2 ^ 64) : PySem.IntMulOk a b := PySem.IntMulOk.of_left (PySem.intBits_le_iff.mpr h)

theorem Num.small {p : Int} {l u : Nat} {m e : Int} (h : Num p l u m e) (hp : Prec p) : -8192 < m ∧ m < 8192 := by
  have h1 := h.lt
  have h2 : 2 ^ p.toNat ≤ 2 ^ 13 := Nat.pow_le_pow_right (by decide) (by have := hp.hi; lia)
  omega
theorem Num.size {p : Int} {l u : Nat} {m e : Int} (h : Num p l u m e) (hp : Prec p) : 0 ≤ sz m ∧ sz m ≤ p := by
  have h1 := sz_le.mpr h.lt
  have := hp.lo
  have := sz_nonneg m
  lia
theorem big_lt {m : Int} (h1 : -(2 ^ 60) < m) (h2 : m < 2 ^ 60) : Big m := by
  unfold Big
  have : (2:Nat)^60 < 2^200 := by decide
  omega
theorem Num.neg {p : Int} {l u : Nat} {m e : Int} (h : Num p l u m e) : Num p l u (0 - m) e := ⟨by have := h.lt; omega, fun h0 => h.zero (by lia), h.lo, h.hi⟩
theorem abs_pos {m : Int} (h : m.sign ≠ 0) : 0 < if m < 0 then -m else m := by
  have : m ≠ 0 := fun h0 => h (by rw [h0]; rfl)
  split <;> lia
theorem abs_pos2 {m n : Int} (h0 : m.sign ≠ 0) (h : m.sign = n.sign) : 0 < if n < 0 then -n else n := abs_pos (by rw [← h]; exact h0)
theorem abs_small {m : Int} (h : -8192 < m ∧ m < 8192) : (if m < 0 then -m else m) < 8192 := by split <;> lia
theorem natAbs_mul {a b : Int} (h1 : -8193 < a ∧ a < 8193) (h2 : -8193 < b ∧ b < 8193) : (a * b).natAbs < 2 ^ 64 := by
  rw [Int.natAbs_mul]
  have : a.natAbs * b.natAbs ≤ 8192 * 8192 := Nat.mul_le_mul (by omega) (by omega)
  omega
theorem big_mul {a b : Int} (h1 : -8192 < a ∧ a < 8192) (h2 : -8192 < b ∧ b < 8192) : Big (a * b) := by
  unfold Big
  have := natAbs_mul (a := a) (b := b) (by omega) (by omega)
  have h3 : (2:Nat)^64 < 2^200 := by decide
  omega

theorem pw_big {m : Int} {k j : Nat} (hm : -8192 < m ∧ m < 8192) (hk : k ≤ j) : (m * 2 ^ k).natAbs ≤ 8192 * 2 ^ j := by
  rw [natAbs_mul_pw]
  exact Nat.mul_le_mul (by omega) (pwle hk)
theorem big_far {p m1 : Int} (m2 : Int) (hp : Prec p) (h1 : -8192 < m1 ∧ m1 < 8192) (h2 : 0 ≤ sz m1) : Big (2 * (m1 * 2 ^ (p + 3 - sz m1).toNat) + Int.sign m2) := by
  have h3 := pw_big (k := (p + 3 - sz m1).toNat) (j := 16) h1 (by have := hp.hi; omega)
  have h4 : (2:Nat)^200 = 2^100 * 2^100 := by decide
  have h5 : (2:Nat)^60 < 2^200 := by decide
  have h6 : m2.sign.natAbs ≤ 1 := by
    rcases Int.lt_trichotomy m2 0 with h | h | h
    · rw [Int.sign_eq_neg_one_of_neg h]; decide
    · subst h; decide
    · rw [Int.sign_eq_one_of_pos h]; decide
  unfold Big
  omega
theorem big_far2 {p m1 m2 lo : Int} (h : Big (2 * (m1 * 2 ^ (p + 3 - sz m1).toNat) + Int.sign m2)) (h1 : p + 3 - sz m1 ≤ lo) (h2 : lo = 0 ∨ lo = p + 3 - sz m1) : Big (2 * (m1 * 2 ^ lo.toNat) + Int.sign m2) := by
  have : lo.toNat = (p + 3 - sz m1).toNat := by lia
  rw [this]; exact h
theorem big_total {p m1 e1 m2 e2 lo last : Int} {l1 l2 v1 v2 : Nat} (hp : Prec p) (hn1 : Num p l1 v1 m1 e1) (hn2 : Num p l2 v2 m2 e2) (hpl : sz m2 + e2 ≤ sz m1 + e1)
    (hl : last = e1 ∨ last = sz m1 + e1 - p - 3) (hnf : ¬ sz m2 + e2 < last) (hlo : lo = e1 ∨ lo = e2) : Big (m1 * 2 ^ (e1 - lo).toNat + m2 * 2 ^ (e2 - lo).toNat) := by
  have a1 := hn1.size hp
  have a2 := hn2.size hp
  have hi := hp.hi
  have b1 := pw_big (k := (e1 - lo).toNat) (j := 30) (hn1.small hp) (by lia)
  have b2 := pw_big (k := (e2 - lo).toNat) (j := 30) (hn2.small hp) (by lia)
  have h5 : (2:Nat)^60 < 2^200 := by decide
  unfold Big
  omega
theorem far_end {p m1 m2 e1 lo n' e' : Int} (h1 : 0 ≤ sz m1) (h2 : sz m1 ≤ p) (h3 : p + 3 - sz m1 ≤ lo) (h4 : lo = 0 ∨ lo = p + 3 - sz m1) (h : SR p (2 * (m1 * 2 ^ lo.toNat) + Int.sign m2) (e1 - lo - 1) n' e') : SR p (2 * (m1 * 2 ^ (p + 3 - sz m1).toNat) + Int.sign m2) (e1 - (p + 3 - sz m1) - 1) n' e' := by
  have : lo = p + 3 - sz m1 := by lia
  rw [← this]; exact h
theorem rv_split {m e lo : Int} (h : lo ≤ e) (h0 : -400 ≤ lo) : rv m e = m * 2 ^ (e - lo).toNat * 2 ^ (lo + 400).toNat := by
  unfold rv
  rw [Int.mul_assoc, ← pwadd]
  congr 2
  lia
theorem rv_neg (m e : Int) : rv (-m) e = -rv m e := by unfold rv; rw [Int.neg_mul]
theorem rv_zero (e : Int) : rv 0 e = 0 := by unfold rv; rw [Int.zero_mul]
theorem rv_natAbs (m e : Int) : (rv m e).natAbs = m.natAbs * 2 ^ (e + 400).toNat := natAbs_mul_pw _ _
theorem sz_lt (m : Int) : m.natAbs < 2 ^ (sz m).toNat := sz_le.mp (by have := sz_nonneg m; lia)
theorem sz_ge {m : Int} (h : m ≠ 0) : 1 ≤ sz m ∧ 2 ^ (sz m - 1).toNat ≤ m.natAbs := by
  have h0 := sz_nonneg m
  have h1 : 1 ≤ sz m := by
    apply Int.not_lt.mp
    intro h2
    have := sz_le.mp (show sz m ≤ ((0 : Nat) : Int) by omega)
    simp at this
    lia
  refine ⟨h1, ?_⟩
  apply Nat.le_of_not_lt
  intro hlt
  have := sz_le.mpr hlt
  omega
theorem rv_lt {m e : Int} {k : Nat} (h : sz m + e + 400 ≤ k) (he : -400 ≤ e) : (rv m e).natAbs < 2 ^ k := by
  rw [rv_natAbs]
  have h0 := sz_nonneg m
  have h1 : m.natAbs * 2 ^ (e + 400).toNat < 2 ^ (sz m).toNat * 2 ^ (e + 400).toNat := Nat.mul_lt_mul_of_pos_right (sz_lt m) (Nat.pow_pos (by decide))
  rw [← Nat.pow_add] at h1
  exact Nat.lt_of_lt_of_le h1 (pwle (by omega))
theorem rv_ge {m e : Int} {k : Nat} (hm : m ≠ 0) (h : k ≤ sz m - 1 + e + 400) (he : -400 ≤ e) : 2 ^ k ≤ (rv m e).natAbs := by
  rw [rv_natAbs]
  obtain ⟨h0, h1⟩ := sz_ge hm
  have h2 : 2 ^ (sz m - 1).toNat * 2 ^ (e + 400).toNat ≤ m.natAbs * 2 ^ (e + 400).toNat := Nat.mul_le_mul_right _ h1
  rw [← Nat.pow_add] at h2
  exact Nat.le_trans (pwle (by omega)) h2
theorem rv_sign (m e : Int) : (rv m e).sign = m.sign := by
  unfold rv
  rw [Int.sign_mul, Int.sign_eq_one_of_pos (pwpos _), Int.mul_one]
theorem rv_pos {m e : Int} (h : 0 < m) : 0 < rv m e := Int.mul_pos h (pwpos _)
theorem rv_less {m1 e1 m2 e2 : Int} (h1 : 0 < m1) (h2 : 0 < m2) (a1 : -300 ≤ e1) (a2 : -300 ≤ e2) (h : sz m2 + e2 < sz m1 + e1) : rv m2 e2 < rv m1 e1 := by
  have := sz_nonneg m2
  have l := rv_lt (m := m2) (e := e2) (k := (sz m2 + e2 + 400).toNat) (by lia) (by lia)
  have g := rv_ge (m := m1) (e := e1) (k := (sz m2 + e2 + 400).toNat) (by omega) (by lia) (by lia)
  have p1 := rv_pos (e := e1) h1
  have p2 := rv_pos (e := e2) h2
  omega
theorem sign_lt {a b : Int} (h : a.sign < b.sign) : a < b := by
  apply Int.not_le.mp
  intro hle
  rcases Int.lt_trichotomy a 0 with x | x | x <;> rcases Int.lt_trichotomy b 0 with y | y | y <;>
    simp only [x, y, Int.sign_eq_neg_one_of_neg, Int.sign_eq_one_of_pos, Int.sign_zero] at h <;> lia
theorem cmp_gt {m1 e1 m2 e2 : Int} (h1 : 0 < m1) (h2 : 0 < m2) (a1 : -300 ≤ e1) (a2 : -300 ≤ e2) (h : sz m2 + e2 < sz m1 + e1) : (1 : Int) = Int.sign (rv m1 e1 - rv m2 e2) := by
  rw [Int.sign_eq_one_of_pos]
  have := rv_less h1 h2 a1 a2 h
  omega
theorem cmp_lt {m1 e1 m2 e2 : Int} (h1 : 0 < m1) (h2 : 0 < m2) (a1 : -300 ≤ e1) (a2 : -300 ≤ e2) (hn : sz m1 + e1 ≠ sz m2 + e2) (h : ¬ sz m2 + e2 < sz m1 + e1) : (-1 : Int) = Int.sign (rv m1 e1 - rv m2 e2) := by
  rw [Int.sign_eq_neg_one_of_neg]
  have := rv_less h2 h1 a2 a1 (by omega)
  omega
theorem cmp_eq {m1 e1 m2 e2 lo : Int} (a1 : -300 ≤ e1) (a2 : -300 ≤ e2) (l1 : lo ≤ e1) (l2 : lo ≤ e2) (l3 : lo = e1 ∨ lo = e2) : (m1 * 2 ^ (e1 - lo).toNat - m2 * 2 ^ (e2 - lo).toNat).sign = Int.sign (rv m1 e1 - rv m2 e2) := by
  rw [rv_split l1 (by lia), rv_split l2 (by lia), ← Int.sub_mul, Int.sign_mul, Int.sign_eq_one_of_pos (pwpos (lo + 400).toNat), Int.mul_one]
theorem cmp_s1 {m1 e1 m2 e2 : Int} (hn : m1.sign ≠ m2.sign) (h : m2.sign < m1.sign) : (1 : Int) = Int.sign (rv m1 e1 - rv m2 e2) := by
  rw [← rv_sign m1 e1, ← rv_sign m2 e2] at h
  have := sign_lt h
  rw [Int.sign_eq_one_of_pos (by omega)]
theorem cmp_s2 {m1 e1 m2 e2 : Int} (hn : m1.sign ≠ m2.sign) (h : ¬ m2.sign < m1.sign) : (-1 : Int) = Int.sign (rv m1 e1 - rv m2 e2) := by
  have h3 : m1.sign < m2.sign := by omega
  rw [← rv_sign m1 e1, ← rv_sign m2 e2] at h3
  have := sign_lt h3
  rw [Int.sign_eq_neg_one_of_neg (by omega)]
theorem cmp_s3 {m1 e1 m2 e2 : Int} (hn : m1.sign = m2.sign) (h : m1.sign = 0) : (0 : Int) = Int.sign (rv m1 e1 - rv m2 e2) := by
  have h1 : m1 = 0 := Int.sign_eq_zero_iff_zero.mp h
  have h2 : m2 = 0 := Int.sign_eq_zero_iff_zero.mp (by omega)
  rw [h1, h2, rv_zero, rv_zero]
  rfl
theorem cmp_s4 {m1 e1 m2 e2 : Int} (hn : m1.sign = m2.sign) (h : m1.sign ≠ 0) : m1.sign * Int.sign (rv (if m1 < 0 then -m1 else m1) e1 - rv (if m2 < 0 then -m2 else m2) e2) = Int.sign (rv m1 e1 - rv m2 e2) := by
  rcases Int.lt_trichotomy m1 0 with x | x | x
  · have y : m2 < 0 := by
      apply Int.not_le.mp
      intro hle
      rw [Int.sign_eq_neg_one_of_neg x] at hn
      rcases Int.lt_or_eq_of_le hle with z | z
      · rw [Int.sign_eq_one_of_pos z] at hn; omega
      · rw [← z] at hn; simp at hn
    rw [if_pos x, if_pos y, rv_neg, rv_neg, Int.sign_eq_neg_one_of_neg x, show -rv m1 e1 - -rv m2 e2 = -(rv m1 e1 - rv m2 e2) by lia, Int.sign_neg]
    omega
  · subst x; simp at h
  · have y : 0 < m2 := by
      apply Int.not_le.mp
      intro hle
      rw [Int.sign_eq_one_of_pos x] at hn
      rcases Int.lt_or_eq_of_le hle with z | z
      · rw [Int.sign_eq_neg_one_of_neg z] at hn; omega
      · rw [z] at hn; simp at hn
    rw [if_neg (by omega), if_neg (by omega), Int.sign_eq_one_of_pos x, Int.one_mul]
structure AddOk (p : Int) (l1 v1 : Nat) (m1 e1 : Int) (l2 v2 : Nat) (m2 e2 n' e' : Int) : Prop where
  num : Num p (max l1 l2) (max v1 v2 + 20) n' e'
  rnd : Rnd p.toNat (rv m1 e1 + rv m2 e2) (rv n' e')
  bde : -300 ≤ e' ∧ e' ≤ 700
  bdm : -8193 < n' ∧ n' < 8193
structure SubOk (p : Int) (l1 v1 : Nat) (m1 e1 : Int) (l2 v2 : Nat) (m2 e2 n' e' : Int) : Prop where
  num : Num p (max l1 l2) (max v1 v2 + 20) n' e'
  rnd : Rnd p.toNat (rv m1 e1 - rv m2 e2) (rv n' e')
  bde : -300 ≤ e' ∧ e' ≤ 700
  bdm : -8193 < n' ∧ n' < 8193
structure MulOk (p : Int) (l1 v1 : Nat) (m1 e1 : Int) (l2 v2 : Nat) (m2 e2 n' e' : Int) : Prop where
  num : Num p (l1 + l2) (v1 + v2 + 30) n' e'
  sr : SR p (m1 * m2) (e1 + e2) n' e'
  bde : -700 ≤ e' ∧ e' ≤ 1300
  bdm : -8193 < n' ∧ n' < 8193
theorem AddOk.comm {p m1 e1 m2 e2 n' e' : Int} {l1 v1 l2 v2 : Nat} (h : AddOk p l1 v1 m1 e1 l2 v2 m2 e2 n' e') : AddOk p l2 v2 m2 e2 l1 v1 m1 e1 n' e' :=
  ⟨by rw [Nat.max_comm l2, Nat.max_comm v2]; exact h.num, by rw [Int.add_comm]; exact h.rnd, h.bde, h.bdm⟩
theorem lean_rv {r e n' e' : Int} {g : Nat} (he : -400 ≤ e) (h : LeanOf r (e + g) n' e') : rv n' e' = r * 2 ^ (g + (e + 400).toNat) ∧ ((n' = 0 ∧ e' = 0) ∨ (n' % 2 = 1 ∧ e ≤ e')) := by
  rcases h with ⟨rfl, rfl, rfl⟩ | ⟨h0, ho, k, rfl, rfl⟩
  · exact ⟨by rw [rv_zero, Int.zero_mul], .inl ⟨rfl, rfl⟩⟩
  · refine ⟨?_, .inr ⟨ho, by lia⟩⟩
    unfold rv
    rw [Int.mul_assoc, ← pwadd]
    congr 2
    lia
theorem sr_rnd {p m e n' e' : Int} (hp : Prec p) (he : -400 ≤ e) (h : SR p m e n' e') : Rnd p.toNat (rv m e) (rv n' e') ∧ ((n' = 0 ∧ e' = 0) ∨ (n' % 2 = 1 ∧ e ≤ e')) := by
  obtain ⟨g, r, hr, hl⟩ := h
  obtain ⟨h1, h2⟩ := lean_rv he hl
  refine ⟨?_, h2⟩
  rw [h1]
  exact rnd_scale (by have := hp.lo; omega) hr
theorem sr_info {p m e n' e' : Int} {j : Nat} (hp : Prec p) (h : SR p m e n' e') (hm : m.natAbs < 2 ^ j) : (n' = 0 ∧ e' = 0) ∨ (n' % 2 = 1 ∧ n'.natAbs < 2 ^ p.toNat ∧ e ≤ e' ∧ e' ≤ e + j) := by
  obtain ⟨g, r, hr, hl⟩ := h
  have hP : 1 ≤ p.toNat := by have := hp.lo; lia
  rcases hl with ⟨rfl, rfl, rfl⟩ | ⟨h0, ho, k, rfl, rfl⟩
  · exact .inl ⟨rfl, rfl⟩
  · have hf := ff_unmul (ff_unmul (rnd_ff hP ⟨g, _, hr, rfl⟩))
    refine .inr ⟨ho, ff_odd hP hf ho, by lia, ?_⟩
    have hs := spec_size (rndG_iff.mp hr).2
    rw [natAbs_mul_pw, Nat.mul_assoc, ← Nat.pow_add] at hs
    have h1 : 1 * 2 ^ (k + g) ≤ n'.natAbs * 2 ^ (k + g) := Nat.mul_le_mul_right _ (by lia)
    have h2 : 2 ^ (k + g) < 2 ^ (j + 1) := by rw [Nat.pow_succ]; lia
    have := pwlt h2
    lia
section
variable {p m1 e1 m2 e2 n' e' last lo : Int} {l1 l2 v1 v2 : Nat} (hp : Prec p) (hn1 : Num p l1 v1 m1 e1) (hn2 : Num p l2 v2 m2 e2) (hl1 : l1 ≤ 300) (hl2 : l2 ≤ 300) (hv1 : v1 ≤ 600) (hv2 : v2 ≤ 600)
include hp hn1 hn2 hl1 hl2 hv1 hv2
theorem add_ok (hr : Rnd p.toNat (rv m1 e1 + rv m2 e2) (rv n' e')) (hl : (n' = 0 ∧ e' = 0) ∨ (n' % 2 = 1 ∧ -400 ≤ e')) : AddOk p l1 v1 m1 e1 l2 v2 m2 e2 n' e' := by
  have hlo := hp.lo
  have hhi := hp.hi
  have hP : 1 ≤ p.toNat := by omega
  rcases hl with ⟨rfl, rfl⟩ | ⟨ho, he⟩
  · exact ⟨⟨Nat.pow_pos (by decide), fun _ => rfl, by lia, by lia⟩, hr, by omega, by omega⟩
  · have hlt := ff_odd hP (ff_unmul (rnd_ff hP hr)) ho
    have b1 := hn1.lo
    have b2 := hn2.lo
    have c1 := hn1.hi
    have c2 := hn2.hi
    have d1 : (2:Int) ^ (400 - max l1 l2) ∣ rv m1 e1 := Int.dvd_trans (pwdvd (by lia)) ⟨m1, Int.mul_comm _ _⟩
    have d2 : (2:Int) ^ (400 - max l1 l2) ∣ rv m2 e2 := Int.dvd_trans (pwdvd (by lia)) ⟨m2, Int.mul_comm _ _⟩
    have d3 := odd_dvd ho (rnd_dvd hr (Int.dvd_add d1 d2))
    have u1 : (rv m1 e1).natAbs < 2 ^ (p.toNat + (max v1 v2 + 400)) := by
      rw [rv_natAbs, Nat.pow_add]
      exact Nat.lt_of_lt_of_le (Nat.mul_lt_mul_of_pos_right hn1.lt (Nat.pow_pos (by decide))) (Nat.mul_le_mul_left _ (pwle (by lia)))
    have u2 : (rv m2 e2).natAbs < 2 ^ (p.toNat + (max v1 v2 + 400)) := by
      rw [rv_natAbs, Nat.pow_add]
      exact Nat.lt_of_lt_of_le (Nat.mul_lt_mul_of_pos_right hn2.lt (Nat.pow_pos (by decide))) (Nat.mul_le_mul_left _ (pwle (by lia)))
    have n0 := rnd_near hP hr (f := 0) ⟨0, 0, by simp, by simp⟩
    have g1 : 1 * 2 ^ (e' + 400).toNat ≤ (rv n' e').natAbs := by rw [rv_natAbs]; exact Nat.mul_le_mul_right _ (by lia)
    have g2 : 2 ^ (e' + 400).toNat < 2 ^ (p.toNat + (max v1 v2 + 400) + 2) := by
      rw [Nat.pow_succ, Nat.pow_succ]; omega
    have g3 := pwlt g2
    have hsm : 2 ^ p.toNat ≤ 2 ^ 13 := pwle (by lia)
    exact ⟨⟨hlt, fun h0 => by lia, by lia, by lia⟩, hr, by lia, by lia⟩
theorem add_zero1 (h0 : m1.sign = 0) (h : SR p (m1 + m2) (e1 + e2) n' e') : AddOk p l1 v1 m1 e1 l2 v2 m2 e2 n' e' := by
  have hm : m1 = 0 := Int.sign_eq_zero_iff_zero.mp h0
  subst hm
  have he : e1 = 0 := hn1.zero rfl
  subst he
  rw [Int.zero_add, Int.zero_add] at h
  have b2 := hn2.lo
  obtain ⟨h1, h2⟩ := sr_rnd hp (by lia) h
  refine add_ok hp hn1 hn2 hl1 hl2 hv1 hv2 (by rw [rv_zero, Int.zero_add]; exact h1) ?_
  rcases h2 with h2 | h2
  · exact .inl h2
  · exact .inr ⟨h2.1, by lia⟩
theorem add_zero2 (h0 : m2.sign = 0) (h : SR p (m1 + m2) (e1 + e2) n' e') : AddOk p l1 v1 m1 e1 l2 v2 m2 e2 n' e' := by
  have := add_zero1 hp hn2 hn1 hl2 hl1 hv2 hv1 h0 (by rw [Int.add_comm m2, Int.add_comm e2]; exact h)
  exact this.comm
theorem add_far1 (h1 : m1.sign ≠ 0) (h2 : m2.sign ≠ 0) (hpl : sz m2 + e2 ≤ sz m1 + e1) (hl : last = e1 ∨ last = sz m1 + e1 - p - 3) (hll : last ≤ sz m1 + e1 - p - 3) (hf : sz m2 + e2 < last)
    (h : SR p (2 * (m1 * 2 ^ (p + 3 - sz m1).toNat) + Int.sign m2) (e1 - (p + 3 - sz m1) - 1) n' e') : AddOk p l1 v1 m1 e1 l2 v2 m2 e2 n' e' := by
  have b1 := hn1.lo
  have b2 := hn2.lo
  have s1 := hn1.size hp
  have lo := hp.lo
  have hi := hp.hi
  obtain ⟨g, r, hr, hle⟩ := h
  have he : -400 ≤ e1 - (p + 3 - sz m1) - 1 := by lia
  obtain ⟨hv, hl9⟩ := lean_rv he hle
  have hm1 : m1 ≠ 0 := fun h0 => h1 (by rw [h0]; rfl)
  obtain ⟨z1, z2⟩ := sz_ge hm1
  refine add_ok hp hn1 hn2 hl1 hl2 hv1 hv2 ?_ ?_
  · have hT : rv m1 e1 = 2 * (m1 * 2 ^ (p + 3 - sz m1).toNat) * 2 ^ (e1 - (p + 3 - sz m1) - 1 + 400).toNat := by
      unfold rv
      have e : (e1 + 400).toNat = 1 + (p + 3 - sz m1).toNat + (e1 - (p + 3 - sz m1) - 1 + 400).toNat := by lia
      rw [e, pwadd, pwadd]
      simp only [Int.pow_one, Int.mul_assoc, Int.mul_left_comm]
    have hsg : m2.sign = 1 ∨ m2.sign = -1 := by
      rcases Int.lt_trichotomy m2 0 with x | x | x
      · exact .inr (Int.sign_eq_neg_one_of_neg x)
      · exact absurd (by rw [x]; rfl) h2
      · exact .inl (Int.sign_eq_one_of_pos x)
    have := far_rnd (t := rv m2 e2) (u := (e1 - (p + 3 - sz m1) - 1 + 400).toNat) (by omega) hsg ?_ hr (rv_lt (by omega) (by lia)) ?_ ?_
    · rw [hv, hT]
      exact ⟨_, _, this, rfl⟩
    · rw [natAbs_mul_pw]
      have q : 2 ^ (sz m1 - 1).toNat * 2 ^ (p + 3 - sz m1).toNat ≤ m1.natAbs * 2 ^ (p + 3 - sz m1).toNat := Nat.mul_le_mul_right _ z2
      rw [← Nat.pow_add] at q
      exact Nat.le_trans (pwle (by omega)) q
    · intro hs
      exact Int.sign_eq_one_iff_pos.mp (by rw [rv_sign]; exact hs)
    · intro hs
      exact Int.sign_eq_neg_one_iff_neg.mp (by rw [rv_sign]; exact hs)
  · rcases hl9 with h4 | h4
    · exact .inl h4
    · exact .inr ⟨h4.1, by lia⟩
theorem add_far2 (h1 : m1.sign ≠ 0) (h2 : m2.sign ≠ 0) (hpl : sz m1 + e1 ≤ sz m2 + e2) (hl : last = e2 ∨ last = sz m2 + e2 - p - 3) (hll : last ≤ sz m2 + e2 - p - 3) (hf : sz m1 + e1 < last)
    (h : SR p (2 * (m2 * 2 ^ (p + 3 - sz m2).toNat) + Int.sign m1) (e2 - (p + 3 - sz m2) - 1) n' e') : AddOk p l1 v1 m1 e1 l2 v2 m2 e2 n' e' := by
  exact (add_far1 hp hn2 hn1 hl2 hl1 hv2 hv1 h2 h1 hpl hl hll hf h).comm
theorem add_near1 (h1 : m1.sign ≠ 0) (h2 : m2.sign ≠ 0) (hpl : sz m2 + e2 ≤ sz m1 + e1) (hl : last = e1 ∨ last = sz m1 + e1 - p - 3) (hf : ¬ sz m2 + e2 < last) (hlo : lo = e1 ∨ lo = e2) (hlo1 : lo ≤ e1) (hlo2 : lo ≤ e2)
    (h : SR p (m1 * 2 ^ (e1 - lo).toNat + m2 * 2 ^ (e2 - lo).toNat) lo n' e') : AddOk p l1 v1 m1 e1 l2 v2 m2 e2 n' e' := by
  have b1 := hn1.lo
  have b2 := hn2.lo
  obtain ⟨h3, h4⟩ := sr_rnd hp (by lia) h
  refine add_ok hp hn1 hn2 hl1 hl2 hv1 hv2 ?_ ?_
  · rw [rv_split hlo1 (by lia), rv_split hlo2 (by lia), ← Int.add_mul]
    exact h3
  · rcases h4 with h4 | h4
    · exact .inl h4
    · exact .inr ⟨h4.1, by lia⟩
theorem add_near2 (h1 : m1.sign ≠ 0) (h2 : m2.sign ≠ 0) (hpl : sz m1 + e1 ≤ sz m2 + e2) (hl : last = e2 ∨ last = sz m2 + e2 - p - 3) (hf : ¬ sz m1 + e1 < last) (hlo : lo = e2 ∨ lo = e1) (hlo2 : lo ≤ e2) (hlo1 : lo ≤ e1)
    (h : SR p (m2 * 2 ^ (e2 - lo).toNat + m1 * 2 ^ (e1 - lo).toNat) lo n' e') : AddOk p l1 v1 m1 e1 l2 v2 m2 e2 n' e' := by
  exact (add_near1 hp hn2 hn1 hl2 hl1 hv2 hv1 h2 h1 hpl hl hf hlo hlo2 hlo1 h).comm
end
theorem AddOk.sub {p m1 e1 m2 e2 n' e' : Int} {l1 v1 l2 v2 : Nat} (h : AddOk p l1 v1 m1 e1 l2 v2 (0 - m2) e2 n' e') : SubOk p l1 v1 m1 e1 l2 v2 m2 e2 n' e' := by
  refine ⟨h.num, ?_, h.bde, h.bdm⟩
  have e : rv (0 - m2) e2 = - rv m2 e2 := by unfold rv; rw [Int.zero_sub, Int.neg_mul]
  have := h.rnd
  rw [e] at this
  exact this
theorem mul_end {p m1 e1 m2 e2 n' e' : Int} {l1 v1 l2 v2 : Nat} (hp : Prec p) (hn1 : Num p l1 v1 m1 e1) (hn2 : Num p l2 v2 m2 e2) (hl1 : l1 ≤ 300) (hl2 : l2 ≤ 300) (hv1 : v1 ≤ 600) (hv2 : v2 ≤ 600) (h : SR p (m1 * m2) (e1 + e2) n' e') : MulOk p l1 v1 m1 e1 l2 v2 m2 e2 n' e' := by
  have b1 := hn1.lo
  have b2 := hn2.lo
  have c1 := hn1.hi
  have c2 := hn2.hi
  have s1 := hn1.small hp
  have s2 := hn2.small hp
  have hsm : 2 ^ p.toNat ≤ 2 ^ 13 := pwle (by have := hp.hi; lia)
  have hm : (m1 * m2).natAbs < 2 ^ 26 := by
    rw [Int.natAbs_mul]
    have : m1.natAbs * m2.natAbs ≤ 8191 * 8191 := Nat.mul_le_mul (by omega) (by omega)
    have : (2:Nat) ^ 26 = 8192 * 8192 := by decide
    omega
  rcases sr_info hp h hm with ⟨rfl, rfl⟩ | ⟨ho, hlt, q1, q2⟩
  · exact ⟨⟨Nat.pow_pos (by decide), fun _ => rfl, by lia, by lia⟩, h, by lia, by omega⟩
  · exact ⟨⟨hlt, fun h0 => by lia, by lia, by lia⟩, h, by lia, by omega⟩
def RDV (p n b n' e' : Int) : Prop := (n = 0 ∧ n' = 0 ∧ e' = 0) ∨ (n ≠ 0 ∧ SR p (n.sign * (2 * ((if n < 0 then -n else n) * 2 ^ (p + 2 + sz b - sz n).toNat).fdiv b + (if (((if n < 0 then -n else n) * 2 ^ (p + 2 + sz b - sz n).toNat).fmod b != 0) = true then 1 else 0))) (0 - (p + 2 + sz b - sz n) - 1) n' e')
theorem abs_natAbs' (n : Int) : (if n < 0 then -n else n) = (n.natAbs : Int) := by split <;> lia
theorem rd_hi {p n b : Int} (hp : Prec p) (hs1 : sz n ≤ p) (hs2 : 1 ≤ sz b) (hb : 0 < b) : 0 ≤ ((if n < 0 then -n else n) * 2 ^ (p + 2 + sz b - sz n).toNat).fdiv b ∧ ((if n < 0 then -n else n) * 2 ^ (p + 2 + sz b - sz n).toNat).fdiv b < 2 ^ (p.toNat + 3) := by
  have lo := hp.lo
  rw [abs_natAbs', Int.fdiv_eq_ediv_of_nonneg _ (by lia)]
  have hx : (0:Int) ≤ (n.natAbs : Int) * 2 ^ (p + 2 + sz b - sz n).toNat := Int.mul_nonneg (by lia) (Int.le_of_lt (pwpos _))
  refine ⟨Int.ediv_nonneg hx (by lia), Int.ediv_lt_of_lt_mul hb ?_⟩
  have h0 := sz_nonneg n
  have h1 := sz_lt n
  have h2 := (sz_ge (m := b) (by omega)).2
  have h3 : n.natAbs * 2 ^ (p + 2 + sz b - sz n).toNat < 2 ^ (sz n).toNat * 2 ^ (p + 2 + sz b - sz n).toNat := Nat.mul_lt_mul_of_pos_right h1 (Nat.pow_pos (by decide))
  have h4 : 2 ^ (p.toNat + 3) * 2 ^ (sz b - 1).toNat ≤ 2 ^ (p.toNat + 3) * b.natAbs := Nat.mul_le_mul_left _ h2
  have h5 : 2 ^ (sz n).toNat * 2 ^ (p + 2 + sz b - sz n).toNat = 2 ^ (p.toNat + 3) * 2 ^ (sz b - 1).toNat := by
    rw [← Nat.pow_add, ← Nat.pow_add]; congr 1; lia
  have h6 : n.natAbs * 2 ^ (p + 2 + sz b - sz n).toNat < 2 ^ (p.toNat + 3) * b.natAbs := by omega
  have h7 := Int.ofNat_lt.mpr h6
  rw [Int.natCast_mul, Int.natCast_mul, pw, pw] at h7
  have h8 : (b.natAbs : Int) = b := by lia
  rw [h8] at h7
  exact h7
theorem rd_lo {p n b : Int} (hp : Prec p) (hn : n ≠ 0) (hs1 : sz n ≤ p) (hs2 : 1 ≤ sz b) (hb : 0 < b) : 2 ^ (p.toNat + 1) ≤ ((if n < 0 then -n else n) * 2 ^ (p + 2 + sz b - sz n).toNat).fdiv b := by
  have lo := hp.lo
  rw [abs_natAbs', Int.fdiv_eq_ediv_of_nonneg _ (by lia)]
  refine Int.le_ediv_of_mul_le hb ?_
  have h1 := sz_lt b
  obtain ⟨h2, h3⟩ := sz_ge hn
  have h4 : 2 ^ (sz n - 1).toNat * 2 ^ (p + 2 + sz b - sz n).toNat ≤ n.natAbs * 2 ^ (p + 2 + sz b - sz n).toNat := Nat.mul_le_mul_right _ h3
  have h5 : 2 ^ (p.toNat + 1) * b.natAbs ≤ 2 ^ (p.toNat + 1) * 2 ^ (sz b).toNat := Nat.mul_le_mul_left _ (Nat.le_of_lt h1)
  have h6 : 2 ^ (sz n - 1).toNat * 2 ^ (p + 2 + sz b - sz n).toNat = 2 ^ (p.toNat + 1) * 2 ^ (sz b).toNat := by
    rw [← Nat.pow_add, ← Nat.pow_add]; congr 1; lia
  have h7 : 2 ^ (p.toNat + 1) * b.natAbs ≤ n.natAbs * 2 ^ (p + 2 + sz b - sz n).toNat := by omega
  have h8 := Int.ofNat_le.mpr h7
  rw [Int.natCast_mul, Int.natCast_mul, pw, pw] at h8
  have h9 : (b.natAbs : Int) = b := by lia
  rw [h9] at h8
  exact h8
theorem sign_le (m : Int) : m.sign = 1 ∨ m.sign = 0 ∨ m.sign = -1 := by
  rcases Int.lt_trichotomy m 0 with h | h | h
  · exact .inr (.inr (Int.sign_eq_neg_one_of_neg h))
  · exact .inr (.inl (by rw [h]; rfl))
  · exact .inl (Int.sign_eq_one_of_pos h)
theorem ite01 {c : Prop} [Decidable c] : 0 ≤ (if c then (1:Int) else 0) ∧ (if c then (1:Int) else 0) ≤ 1 := by split <;> lia
theorem rd_abs {p n b : Int} {c : Prop} [Decidable c] (hp : Prec p) (hs1 : sz n ≤ p) (hs2 : 1 ≤ sz b) (hb : 0 < b) : (n.sign * (2 * ((if n < 0 then -n else n) * 2 ^ (p + 2 + sz b - sz n).toNat).fdiv b + (if c then 1 else 0))).natAbs < 2 ^ (p.toNat + 4) := by
  obtain ⟨h1, h2⟩ := rd_hi hp hs1 hs2 hb
  have h3 := pw (p.toNat + 3)
  have h4 : 2 ^ (p.toNat + 4) = 2 * 2 ^ (p.toNat + 3) := by rw [Nat.pow_succ, Nat.mul_comm]
  have h5 := ite01 (c := c)
  generalize ((if n < 0 then -n else n) * 2 ^ (p + 2 + sz b - sz n).toNat).fdiv b = K at *
  generalize (if c then (1:Int) else 0) = st at *
  rcases sign_le n with h | h | h <;> rw [h] <;> omega
theorem big_rd {p n b : Int} (hp : Prec p) (hs1 : sz n ≤ p) (hs2 : 1 ≤ sz b) (hs3 : sz b ≤ p) (hn : -8192 < n ∧ n < 8192) (hb : 0 < b) : Big (n.sign * (2 * ((if n < 0 then -n else n) * 2 ^ (p + 2 + sz b - sz n).toNat).fdiv b + (if (((if n < 0 then -n else n) * 2 ^ (p + 2 + sz b - sz n).toNat).fmod b != 0) = true then 1 else 0))) := by
  have h1 : 2 ^ (p.toNat + 4) ≤ 2 ^ 200 := pwle (by have := hp.hi; lia)
  unfold Big
  exact Nat.lt_of_lt_of_le (rd_abs hp hs1 hs2 hb) h1
theorem abs_natAbs {n : Int} (h : -8192 < n ∧ n < 8192) : (if n < 0 then -n else n).natAbs < 2 ^ 64 := by split <;> omega
def RootInv (n f b : Int) : Prop := n < (f + 1) * (f + 1) ∧ b = (f + n.fdiv f).fdiv 2 ∧ 0 < n
theorem fdiv_two (a : Int) : a.fdiv 2 = a / 2 := Int.fdiv_eq_ediv_of_nonneg _ (by decide)
theorem root_bits {n : Int} (h0 : 0 ≤ n) (h1 : n < 2 ^ 40) : ∃ e : Nat, ((((Builtin.Int.intBits n : Nat) : Int) + 1).fdiv 2) = e ∧ e ≤ 20 ∧ n < 2 ^ e * 2 ^ e ∧ (n ≠ 0 → 1 ≤ e) := by
  have hb : Builtin.Int.intBits n ≤ 40 := PySem.intBits_le_iff.mpr (by omega)
  have hl : n.natAbs < 2 ^ Builtin.Int.intBits n := PySem.intBits_le_iff.mp (Nat.le_refl _)
  refine ⟨(Builtin.Int.intBits n + 1) / 2, by rw [fdiv_two]; lia, by lia, ?_, ?_⟩
  · have h2 : 2 ^ Builtin.Int.intBits n ≤ 2 ^ ((Builtin.Int.intBits n + 1) / 2 + (Builtin.Int.intBits n + 1) / 2) := pwle (by lia)
    rw [← pwadd, ← pw]
    omega
  · intro hn
    apply Nat.le_of_not_lt
    intro h3
    have : Builtin.Int.intBits n = 0 := by lia
    rw [this] at hl
    simp at hl
    exact hn hl
theorem root_q {n f : Int} (hf : 1 ≤ f) : f * (n / f) ≤ n ∧ n < f * (n / f) + f := by
  have h1 := Int.mul_ediv_add_emod n f
  have h2 := Int.emod_nonneg n (show f ≠ 0 by omega)
  have h3 := Int.emod_lt_of_pos n (show 0 < f by omega)
  omega
theorem root_start {n : Int} (h0 : 0 ≤ n) (h1 : n < 2 ^ 40) : 0 ≤ (((Builtin.Int.intBits n : Nat) : Int) + 1).fdiv 2 ∧ (((Builtin.Int.intBits n : Nat) : Int) + 1).fdiv 2 ≤ 1000000 ∧ (1 * 2 ^ ((((Builtin.Int.intBits n : Nat) : Int) + 1).fdiv 2).toNat : Int) ≠ 0 ∧ ((1 * 2 ^ ((((Builtin.Int.intBits n : Nat) : Int) + 1).fdiv 2).toNat : Int)).natAbs < 1073741824 := by
  obtain ⟨e, h2, h3, h4, h5⟩ := root_bits h0 h1
  rw [h2]
  have h6 : (2:Int) ^ ((e : Int)).toNat ≤ 2 ^ 20 := pwleI (by lia)
  have h7 := pwpos ((e : Int)).toNat
  exact ⟨by lia, by lia, by lia, by omega⟩
theorem root_init {n : Int} (h0 : 0 ≤ n) (h1 : n < 2 ^ 40) (hn : n ≠ 0) : 1 ≤ (1 * 2 ^ ((((Builtin.Int.intBits n : Nat) : Int) + 1).fdiv 2).toNat : Int) ∧ (1 * 2 ^ ((((Builtin.Int.intBits n : Nat) : Int) + 1).fdiv 2).toNat : Int) < 2097152 ∧
    1 ≤ ((1 * 2 ^ ((((Builtin.Int.intBits n : Nat) : Int) + 1).fdiv 2).toNat + n.fdiv (1 * 2 ^ ((((Builtin.Int.intBits n : Nat) : Int) + 1).fdiv 2).toNat)).fdiv 2) ∧ RootInv n (1 * 2 ^ ((((Builtin.Int.intBits n : Nat) : Int) + 1).fdiv 2).toNat) ((1 * 2 ^ ((((Builtin.Int.intBits n : Nat) : Int) + 1).fdiv 2).toNat + n.fdiv (1 * 2 ^ ((((Builtin.Int.intBits n : Nat) : Int) + 1).fdiv 2).toNat)).fdiv 2) := by
  obtain ⟨e, h2, h3, h4, h5⟩ := root_bits h0 h1
  rw [h2, Int.toNat_natCast, Int.one_mul]
  have h6 : (2:Int) ^ e ≤ 2 ^ 20 := pwleI h3
  have h7 : (2:Int) ^ 1 ≤ 2 ^ e := pwleI (h5 hn)
  generalize (2:Int) ^ e = f at *
  have hq : 0 ≤ n / f := Int.ediv_nonneg h0 (by lia)
  refine ⟨by lia, by omega, ?_, ?_, rfl, by lia⟩
  · rw [fdiv_two, Int.fdiv_eq_ediv_of_nonneg _ (by lia)]; lia
  · have : (f + 1) * (f + 1) = f * f + f + f + 1 := by rw [Int.add_mul, Int.mul_add]; lia
    lia
theorem root_step {n f b : Int} (hb : b < f) (h4 : RootInv n f b) (h1 : 1 ≤ f) (h2 : f < 2097152) (h3 : 1 ≤ b) : 1 ≤ b ∧ b < 2097152 ∧ 1 ≤ ((b + n.fdiv b).fdiv 2) ∧ RootInv n b ((b + n.fdiv b).fdiv 2) := by
  obtain ⟨a1, a2, a3⟩ := h4
  rw [fdiv_two, Int.fdiv_eq_ediv_of_nonneg _ (by lia)] at a2
  have hn0 : 0 ≤ n / b := Int.ediv_nonneg (by lia) (by lia)
  have hb1 : 1 ≤ b + n / b - 1 := by
    by_cases h : b = 1
    · subst h
      have : n / 1 = n := Int.ediv_one n
      lia
    · lia
  refine ⟨h3, by lia, ?_, ?_, rfl, a3⟩
  · rw [fdiv_two, Int.fdiv_eq_ediv_of_nonneg _ (by lia)]; lia
  · obtain ⟨q1, q2⟩ := root_q (n := n) h1
    generalize n / f = q at *
    have k1 : f + q + 1 ≤ 2 * (b + 1) := by lia
    have hq : 0 ≤ q := by
      apply Int.not_lt.mp
      intro hq
      have : f * q ≤ f * (-1) := Int.mul_le_mul_of_nonneg_left (by lia) (by lia)
      lia
    have hb0 : 0 ≤ 2 * (b + 1) := by lia
    have hf0 : 0 ≤ f + q + 1 := by lia
    have k2 : (f + q + 1) * (f + q + 1) ≤ (2 * (b + 1)) * (2 * (b + 1)) := Int.mul_le_mul k1 k1 hf0 hb0
    have k3 : 0 ≤ (f - q - 1) * (f - q - 1) := by
      rcases Int.le_total 0 (f - q - 1) with h | h
      · exact Int.mul_nonneg h h
      · exact Int.mul_nonneg_of_nonpos_of_nonpos h h
    have e1 : (f + q + 1) * (f + q + 1) = f * f + 2 * (f * q) + q * q + 2 * f + 2 * q + 1 := by
      simp only [Int.add_mul, Int.mul_add, Int.mul_one, Int.one_mul, Int.mul_comm q f]; lia
    have e2 : (f - q - 1) * (f - q - 1) = f * f - 2 * (f * q) + q * q - 2 * f + 2 * q + 1 := by
      simp only [Int.sub_mul, Int.mul_sub, Int.mul_one, Int.one_mul, Int.mul_comm q f]; lia
    have e3 : (2 * (b + 1)) * (2 * (b + 1)) = 4 * ((b + 1) * (b + 1)) := by
      rw [Int.mul_assoc, Int.mul_left_comm (b + 1)]; lia
    lia
theorem root_end1 {n f b : Int} (hb : ¬ b < f) (h : RootInv n f b) (h1 : 1 ≤ f) : f * f ≤ n := by
  obtain ⟨a1, a2, a3⟩ := h
  rw [fdiv_two, Int.fdiv_eq_ediv_of_nonneg _ (by lia)] at a2
  obtain ⟨q1, q2⟩ := root_q (n := n) h1
  have : f * f ≤ f * (n / f) := Int.mul_le_mul_of_nonneg_left (by lia) (by lia)
  omega
theorem root_end2 {n f b : Int} (hb : ¬ b < f) (h : RootInv n f b) : n < (f + 1) * (f + 1) := h.1
end Mine
namespace Mine
theorem mulOk_right {a b : Int} (h : b.natAbs < 2 ^ 64) : PySem.IntMulOk a b := PySem.IntMulOk.of_right (PySem.intBits_le_iff.mpr h)
section
variable {prog : Program} {w : World} {A : Around} {E : Value → Shared → Prop} {s : Shared} {a b c : Int} {t u v : Tok} {Q : Value → Shared → Prop}
theorem and_one (h : Q (.int (a % 2) s.toks) { s with toks := s.toks + 1 }) : wpAny (model prog w) A (binaryOp .BitAnd (.int a t) (.int 1 u)) Q E s :=
  and_int (by rw [bitAnd_m1]; exact h)
theorem mod_two (h : Q (.int (a % 2) s.toks) { s with toks := s.toks + 1 }) : wpAny (model prog w) A (binaryOp .Mod (.int a t) (.int 2 u)) Q E s :=
  mod_int' (by decide) (by rw [Int.fmod_eq_emod_of_nonneg _ (by decide)]; exact h)
theorem floordiv_two (h : Q (.int (a / 2) s.toks) { s with toks := s.toks + 1 }) : wpAny (model prog w) A (binaryOp .FloorDiv (.int a t) (.int 2 u)) Q E s :=
  floordiv_int (by decide) (by rw [Int.fdiv_eq_ediv_of_nonneg _ (by decide)]; exact h) (Or.inl (PyProof.noPylong_small (by decide)))
end
def DV (p m1 e1 m2 e2 n' e' : Int) : Prop := ∃ a b, RDV p (m1 * Int.sign m2) (if m2 < 0 then -m2 else m2) a b ∧ LeanOf a (b + e1 - e2) n' e'
theorem sz_le' {m p : Int} (hp : 0 ≤ p) (h : m.natAbs < 2 ^ p.toNat) : sz m ≤ p := by
  have := sz_le.mpr h
  lia
theorem div_pre {p m1 e1 m2 e2 : Int} {l1 v1 l2 v2 : Nat} (hp : Prec p) (hn1 : Num p l1 v1 m1 e1) (hn2 : Num p l2 v2 m2 e2) (hz : m2 ≠ 0) :
    sz (m1 * Int.sign m2) ≤ p ∧ 1 ≤ sz (if m2 < 0 then -m2 else m2) ∧ sz (if m2 < 0 then -m2 else m2) ≤ p ∧ 0 < (if m2 < 0 then -m2 else m2) ∧ (if m2 < 0 then -m2 else m2) < 8192 ∧ (-8192 < m1 * Int.sign m2 ∧ m1 * Int.sign m2 < 8192) := by
  have h0 := hp.lo
  have s1 := hn1.small hp
  have s2 := hn2.small hp
  have hs : (m1 * m2.sign).natAbs = m1.natAbs := by
    rcases Int.lt_trichotomy m2 0 with h | h | h
    · rw [Int.sign_eq_neg_one_of_neg h]; lia
    · exact absurd h hz
    · rw [Int.sign_eq_one_of_pos h]; lia
  have hb : (if m2 < 0 then -m2 else m2).natAbs = m2.natAbs := by split <;> lia
  refine ⟨sz_le' (by lia) (by rw [hs]; exact hn1.lt), (sz_ge (by split <;> omega)).1, sz_le' (by lia) (by rw [hb]; exact hn2.lt), by split <;> lia, by split <;> lia, by lia, by lia⟩
theorem rdv_info {p n b a b' : Int} (hp : Prec p) (h : RDV p n b a b') (hs1 : sz n ≤ p) (hs2 : 1 ≤ sz b) (hb : 0 < b) : (a = 0 ∧ b' = 0) ∨ (a % 2 = 1 ∧ a.natAbs < 2 ^ p.toNat ∧ 0 - (p + 2 + sz b - sz n) - 1 ≤ b' ∧ b' ≤ 0 - (p + 2 + sz b - sz n) - 1 + (p + 4)) := by
  rcases h with ⟨_, h1, h2⟩ | ⟨_, h⟩
  · exact .inl ⟨h1, h2⟩
  · have h0 := hp.lo
    rcases sr_info hp h (rd_abs hp hs1 hs2 hb) with h | ⟨h1, h2, h3, h4⟩
    · exact .inl h
    · exact .inr ⟨h1, h2, h3, by omega⟩
theorem placeOk_div {p n b a b' e1 e2 : Int} (hp : Prec p) (h : RDV p n b a b') (hs1 : sz n ≤ p) (hs2 : 1 ≤ sz b) (hs3 : sz b ≤ p) (hb : 0 < b) (he : -900 ≤ e1 - e2 ∧ e1 - e2 ≤ 900) : PlaceOk a (b' + e1 - e2) := by
  have h0 := hp.lo
  have h1 := hp.hi
  have z0 := sz_nonneg n
  rcases rdv_info hp h hs1 hs2 hb with ⟨rfl, rfl⟩ | ⟨h2, h3, h4, h5⟩
  · have : sz 0 = 0 := rfl
    exact ⟨by lia, by lia⟩
  · have h6 := sz_le' (by lia) h3
    have h7 := sz_nonneg a
    exact ⟨by lia, by lia⟩
def SQ (p m1 e1 n' e' : Int) : Prop := ∃ s r : Int, 0 ≤ s ∧ s ≤ 40 ∧ 2 * (p + 2) - sz m1 ≤ s ∧ (e1 - s) % 2 = 0 ∧ 0 ≤ r ∧ r * r ≤ m1 * 2 ^ s.toNat ∧ m1 * 2 ^ s.toNat < (r + 1) * (r + 1) ∧
  SR p (2 * r + (if ((r * r != m1 * 2 ^ s.toNat) = true) then 1 else 0)) ((e1 - s) / 2 - 1) n' e'

theorem div_no {m : Int} (h1 : m = 0) (h2 : m ≠ 0) : False := h2 h1
theorem dv_bd {p n b a b' e1 e2 n' e' : Int} (hp : Prec p) (h : RDV p n b a b') (hs1 : sz n ≤ p) (hs2 : 1 ≤ sz b) (hs3 : sz b ≤ p) (hb : 0 < b) (he : -900 ≤ e1 - e2 ∧ e1 - e2 ≤ 900) (hl : LeanOf a (b' + e1 - e2) n' e') : (-8193 < n' ∧ n' < 8193) ∧ (-2000 ≤ e' ∧ e' ≤ 2000) := by
  have h0 := hp.lo
  have h1 := hp.hi
  have z0 := sz_nonneg n
  rcases hl with ⟨_, rfl, rfl⟩ | ⟨ha, ho, k, rfl, rfl⟩
  · omega
  · rcases rdv_info hp h hs1 hs2 hb with ⟨h2, _⟩ | ⟨h2, h3, h4, h5⟩
    · exact absurd h2 ha
    · have hsm : 2 ^ p.toNat ≤ 2 ^ 13 := pwle (by lia)
      have hk : k = 0 := by
        apply Classical.byContradiction
        intro hk
        have : (2:Int)^k = 2 * 2^(k-1) := by rw [Int.mul_comm, ← Int.pow_succ]; congr 1; lia
        rw [this, Int.mul_left_comm] at h2
        omega
      subst hk
      simp only [Int.pow_zero, Int.mul_one] at *
      omega
theorem sq_num0 {m1 : Int} {k : Nat} (hz : 0 < m1) : 0 ≤ m1 * 2 ^ k := by
  exact Int.mul_nonneg (Int.le_of_lt hz) (Int.le_of_lt (Int.pow_pos (by decide)))
theorem sq_num1 {p m1 e1 lo : Int} (hp : Prec p) (hsz : 0 ≤ sz m1 ∧ sz m1 ≤ p) (hz : 0 < m1) (hb : 2 * (p + 2) - sz m1 ≤ lo) (hc : lo = 0 ∨ lo = 2 * (p + 2) - sz m1) : m1 * 2 ^ (lo + (e1 - lo) % 2).toNat < 2 ^ 40 := by
  have hi := hp.hi
  have h0 := hp.lo
  have h1 := sz_lt m1
  have h2 := h1
  have e : (m1 * 2 ^ (lo + (e1 - lo) % 2).toNat).natAbs < 2 ^ 40 := by
    rw [natAbs_mul_pw]
    have h3 : m1.natAbs * 2 ^ (lo + (e1 - lo) % 2).toNat < 2 ^ (sz m1).toNat * 2 ^ (lo + (e1 - lo) % 2).toNat := Nat.mul_lt_mul_of_pos_right h1 (Nat.pow_pos (by decide))
    rw [← Nat.pow_add] at h3
    exact Nat.lt_of_lt_of_le h3 (pwle (by lia))
  omega
theorem big_sq {r : Int} {c : Prop} [Decidable c] (h0 : 0 ≤ r) (h : r < 2 ^ 21) : Big (2 * r + (if c then 1 else 0)) := big_lt (by split <;> lia) (by split <;> lia)
theorem sq_end {p m1 e1 lo r n' e' : Int} (hp : Prec p) (hsz : 0 ≤ sz m1 ∧ sz m1 ≤ p) (hb : 2 * (p + 2) - sz m1 ≤ lo) (hc : lo = 0 ∨ lo = 2 * (p + 2) - sz m1) (hr : 0 ≤ r)
    (h1 : r * r ≤ m1 * 2 ^ (lo + (e1 - lo) % 2).toNat) (h2 : m1 * 2 ^ (lo + (e1 - lo) % 2).toNat < (r + 1) * (r + 1))
    (h : SR p (2 * r + (if ((r * r != m1 * 2 ^ (lo + (e1 - lo) % 2).toNat) = true) then 1 else 0)) ((e1 - (lo + (e1 - lo) % 2)) / 2 - 1) n' e') : SQ p m1 e1 n' e' := by
  have := hp.hi
  exact ⟨lo + (e1 - lo) % 2, r, by lia, by omega, by lia, by lia, hr, h1, h2, h⟩
theorem sq_bd {p m1 e1 n' e' : Int} (hp : Prec p) (hsz : 0 ≤ sz m1 ∧ sz m1 ≤ p) (hs : -8192 < m1 ∧ m1 < 8192) (he : -600 ≤ e1 ∧ e1 ≤ 600) (h : SQ p m1 e1 n' e') : (-8193 < n' ∧ n' < 8193) ∧ (-2000 ≤ e' ∧ e' ≤ 2000) := by
  obtain ⟨a, r, a0, a1, a2, a3, r0, r1, r2, h⟩ := h
  have b1 : (m1 * 2 ^ a.toNat).natAbs ≤ 8192 * 2 ^ 40 := pw_big hs (by omega)
  have b2 : r < 2 ^ 27 := by
    apply Int.not_le.mp
    intro hle
    have h3 : (2:Int) ^ 27 * 2 ^ 27 ≤ r * r := Int.mul_le_mul hle hle (by decide) r0
    have h4 : (2:Int) ^ 27 * 2 ^ 27 = 18014398509481984 := by decide
    have h5 : (8192 * 2 ^ 40 : Nat) = 9007199254740992 := by decide
    lia
  have h6 := ite01 (c := ((r * r != m1 * 2 ^ a.toNat) = true))
  have hsm : 2 ^ p.toNat ≤ 2 ^ 13 := pwle (by have := hp.hi; lia)
  rcases sr_info (j := 29) hp h (by omega) with ⟨rfl, rfl⟩ | ⟨h1, h2, h3, h4⟩
  · lia
  · omega
def RoomInv (n r : Int) : Prop := ∃ k : Nat, n.natAbs = r.toNat * 2 ^ k
theorem room_init (n : Int) : 0 ≤ (if n < 0 then -n else n) ∧ RoomInv n (if n < 0 then -n else n) := by
  refine ⟨by split <;> lia, 0, ?_⟩
  split <;> lia
theorem room_step {n r : Int} (h : RoomInv n r) (h0 : 0 < r) (h2 : r % 2 = 0) : 0 ≤ r / 2 ∧ RoomInv n (r / 2) := by
  obtain ⟨k, hk⟩ := h
  refine ⟨by lia, k + 1, ?_⟩
  have : r.toNat = (r / 2).toNat * 2 := by lia
  rw [hk, this, Nat.pow_succ, Nat.mul_assoc, Nat.mul_comm 2]
theorem room_end1 {p n r : Int} (hf : FF p.toNat n) (h : ¬ 0 < r) (h0 : 0 ≤ r) : decide (r < 2 ^ p.toNat) = true := by
  have : r = 0 := by lia
  subst this
  exact decide_eq_true (Int.pow_pos (by decide))
theorem room_end2 {p n r : Int} (hp : Prec p) (hf : FF p.toNat n) (h : r % 2 ≠ 0) (hi : RoomInv n r) : decide (r < 2 ^ p.toNat) = true := by
  apply decide_eq_true
  obtain ⟨k, hk⟩ := hi
  by_cases hr : r < 0
  · have := pwpos p.toNat
    omega
  · have hx : FF p.toNat (r * 2 ^ k) := by
      have e1 : ((r * 2 ^ k).natAbs : Nat) = n.natAbs := by rw [natAbs_mul_pw, hk]; congr 1; lia
      have e2 : r * 2 ^ k = n ∨ r * 2 ^ k = -n := by omega
      rcases e2 with e | e <;> rw [e]
      · exact hf
      · exact ff_neg hf
    by_cases hp1 : 1 ≤ p.toNat
    · have := ff_odd hp1 (ff_unmul hx) (by lia)
      have := pw p.toNat
      omega
    · exact absurd hp1 (by have := hp.lo; lia)
structure Deck (ns : List Int) : Prop where
  len : ns.length ≤ 16
  bd : ∀ d ∈ ns, 0 ≤ d ∧ d < 10 ^ 30
theorem ne_len {ns : List Int} (h : decide (ns = []) = false) : (0 : Int) < ns.length := by
  cases ns with
  | nil => simp at h
  | cons a r => simp only [List.length_cons]; omega
theorem deck_room {ns : List Int} {vs : List Value} (hD : Deck ns) (hi : IntsAre vs ns) : vs.length ≤ sizeLine := by
  rw [hi.length, PySem.sizeLine_eq]
  have := hD.len
  lia
theorem deck_tail {ns : List Int} (hD : Deck ns) : Deck ns.tail := by
  cases ns with
  | nil => exact hD
  | cons a r => exact ⟨by have := hD.len; simp only [List.length_cons, List.tail_cons] at *; lia, fun d h => hD.bd d (.tail _ h)⟩
theorem tail_less {ns : List Int} (h : decide (ns = []) = false) : ns.tail.length < ns.length := by
  have := ne_len h
  rw [List.length_tail]
  omega
theorem deck_set {ns : List Int} (hD : Deck ns) (h : decide (ns = []) = false) {many : Int} (hm : 1 ≤ many) : Deck (ns.set 0 ((ns.getD 0 0).fdiv many)) := by
  cases ns with
  | nil => simp at h
  | cons a r =>
    have ha := hD.bd a (.head _)
    refine ⟨by have := hD.len; simpa using this, fun d hd => ?_⟩
    simp only [List.getD_cons_zero, List.set_cons_zero, List.mem_cons] at hd
    rcases hd with rfl | hd
    · rw [Int.fdiv_eq_ediv_of_nonneg _ (by lia)]
      exact ⟨Int.ediv_nonneg ha.1 (by lia), Int.lt_of_le_of_lt (Int.ediv_le_self _ ha.1) ha.2⟩
    · exact hD.bd d (.tail _ hd)
theorem pop0_ints {prog : Program} {w : World} {A : Around} {E : Value → Shared → Prop} {s : Shared} {h₀ : Heap} {L D : Addr} {m : Str → Option Value} {news news' : List (Addr × Obj)} {vs : List Value} {ns : List Int} {n : Nat} {u : Tok} {Q : Value → Shared → Prop}
    (F : Fr h₀ L s.heap m) (N : News h₀ L s.heap news) (U : Upd D (listOf vs.toArray n) (listOf vs.tail.toArray (n + 1)) news news') (hi : IntsAre vs ns) (hne : decide (ns = []) = false) (hz : vs.length ≤ sizeLine)
    (h : ∀ h' t, Fr h₀ L h' m → News h₀ L h' news' → IntsAre vs.tail ns.tail → Q (.int (ns.getD 0 0) t) { s with heap := h' }) : wpAny (model prog w) A (call (.builtin "list.pop") [.ref D, .int 0 u]) Q E s := by
  cases hi with
  | nil => simp at hne
  | cons i t r =>
    rename_i us ms
    exact kl_popAt (p := []) (y := .int i t) (q := us) (k := 0) F N (by with_unfolding_all rfl) (by simp [seqIndex?]) (by simp [kl_cut]) U (by simpa using hz) fun h' F' N' => h h' t F' N' r
theorem news_keep {h₀ h : Heap} {L x : Addr} {o : Obj} {big news : List (Addr × Obj)} (N : News h₀ L h big) (h1 : (x, o) ∈ big) (hs : ∀ p ∈ news, p ∈ big) : News h₀ L h ((x, o) :: news) := by
  intro p hp
  rcases List.mem_cons.mp hp with rfl | hp
  · exact N _ h1
  · exact N _ (hs _ hp)
theorem fmod_lo {a many : Int} (hm : 1 ≤ many) : 0 ≤ a.fmod many := Int.fmod_nonneg_of_pos a (by omega)
theorem fmod_hi {a many : Int} (hm : 1 ≤ many) : a.fmod many < many := Int.fmod_lt_of_pos a (by omega)
end Mine
namespace Mine
/-- the value at lo, told by rv, both at a common foot -/
theorem rv_lo {m e lo : Int} (h : lo ≤ e) (he : -400 ≤ e) : m * 2 ^ (e - lo).toNat * 2 ^ (lo - min lo (-400)).toNat = rv m e * 2 ^ (-400 - min lo (-400)).toNat := by
  unfold rv
  rw [Int.mul_assoc, ← pwadd, Int.mul_assoc, ← pwadd]
  congr 2
  omega
theorem ff_rv {p : Nat} {m e : Int} (h : m.natAbs < 2 ^ p) : FF p (rv m e) := ⟨m, _, rfl, Nat.le_of_lt h⟩
theorem pcancel {a b : Int} {k : Nat} (h : a * 2 ^ k = b * 2 ^ k) : a = b := Int.eq_of_mul_eq_mul_right (Int.ne_of_gt (pwpos k)) h
theorem ple {a b : Int} {k : Nat} (h : a * 2 ^ k ≤ b * 2 ^ k) : a ≤ b := Int.le_of_mul_le_mul_right h (pwpos k)
theorem pmul {a b : Int} {k : Nat} (h : a ≤ b) : a * 2 ^ k ≤ b * 2 ^ k := Int.mul_le_mul_of_nonneg_right h (Int.le_of_lt (pwpos k))
theorem rv_le {m1 e1 m2 e2 lo : Int} (l1 : lo ≤ e1) (l2 : lo ≤ e2) (h1 : -400 ≤ e1) (h2 : -400 ≤ e2) (h : m1 * 2 ^ (e1 - lo).toNat ≤ m2 * 2 ^ (e2 - lo).toNat) : rv m1 e1 ≤ rv m2 e2 := by
  have := pmul (k := (lo - min lo (-400)).toNat) h
  rw [rv_lo l1 h1, rv_lo l2 h2] at this
  exact ple this
theorem sum_room {p m1 e1 m2 e2 n e lo : Int} (hp : Prec p) (hn1 : Num p 4 60 m1 e1) (hn2 : Num p 4 60 m2 e2) (h : AddOk p 4 60 m1 e1 4 60 m2 e2 n e) (a : lo ≤ e1) (b : lo ≤ e2) (c : lo ≤ e) (d : lo = e1 ∨ lo = e2 ∨ lo = e) :
    FF p.toNat (m1 * 2 ^ (e1 - lo).toNat + m2 * 2 ^ (e2 - lo).toNat - n * 2 ^ (e - lo).toNat) := by
  have b1 := hn1.lo
  have b2 := hn2.lo
  have hP : 1 ≤ p.toNat := by have := hp.lo; lia
  have he := h.bde
  refine ff_unmul (j := (lo - min lo (-400)).toNat) ?_
  rw [Int.sub_mul, Int.add_mul, rv_lo a (by omega), rv_lo b (by lia), rv_lo c (by omega), ← Int.add_mul, ← Int.sub_mul]
  exact ff_mul (sum_err hP (ff_rv hn1.lt) (ff_rv hn2.lt) h.rnd)
theorem twosum_end {p m1 e1 m2 e2 nt et nb eb ni ei nl el ns es nr er lo lo' : Int} {la va lb vb lc vc ld vd le ve : Nat} (hp : Prec p) (h5 : ¬ p < 5) (hn1 : Num p 4 60 m1 e1) (hn2 : Num p 4 60 m2 e2)
    (ht : AddOk p 4 60 m1 e1 4 60 m2 e2 nt et) (hb : SubOk p la va nt et 4 60 m1 e1 nb eb) (hi : SubOk p la va nt et lb vb nb eb ni ei) (hl : SubOk p 4 60 m1 e1 lc vc ni ei nl el)
    (hs : SubOk p 4 60 m2 e2 lb vb nb eb ns es) (hr : AddOk p ld vd nl el le ve ns es nr er) (a1 : lo ≤ e1) (a2 : lo ≤ e2) (a3 : lo ≤ et) (c1 : lo' ≤ lo) (c2 : lo' ≤ er) :
    ((m1 * 2 ^ (e1 - lo').toNat + m2 * 2 ^ (e2 - lo').toNat) == (nt * 2 ^ (et - lo').toNat + nr * 2 ^ (er - lo').toNat)) = true := by
  have b1 := hn1.lo
  have b2 := hn2.lo
  have he := ht.bde
  have hf := hr.bde
  have key := two_sum (by have := hp.lo; omega) (ff_rv (e := e1) hn1.lt) (ff_rv (e := e2) hn2.lt) ht.rnd hb.rnd hi.rnd hl.rnd hs.rnd hr.rnd
  apply beq_iff_eq.mpr
  apply pcancel (k := (lo' - min lo' (-400)).toNat)
  rw [Int.add_mul, Int.add_mul, rv_lo (by lia) (by lia), rv_lo (by lia) (by lia), rv_lo (by lia) (by lia), rv_lo c2 (by lia), ← Int.add_mul, ← Int.add_mul, key]
/-- the error of one rounding, from the mantissa alone -/
theorem sr_room {p M E n e lo : Int} (hp : Prec p) (hM : M.natAbs < 2 ^ (p.toNat + p.toNat)) (h : SR p M E n e) (a : lo ≤ E) (b : lo ≤ e) : FF p.toNat (M * 2 ^ (E - lo).toNat - n * 2 ^ (e - lo).toNat) := by
  have hP : 1 ≤ p.toNat := by have := hp.lo; lia
  obtain ⟨g, r, hr, hl⟩ := h
  have e1 : n * 2 ^ (e - lo).toNat = r * 2 ^ g * 2 ^ (E - lo).toNat := by
    rcases hl with ⟨rfl, rfl, rfl⟩ | ⟨_, _, k, rfl, rfl⟩
    · simp
    · have : (E + g + k - lo).toNat = k + g + (E - lo).toNat := by lia
      rw [this, pwadd, pwadd]
      simp only [Int.mul_assoc]
  rw [e1, ← Int.sub_mul]
  obtain ⟨hb, hs⟩ := rndG_iff.mp hr
  have hg := bin_le hP hb hM
  have h2 := spec_bound hs
  have h3 : 2 ^ g ≤ 2 ^ p.toNat := pwle hg
  exact ff_mul ⟨M - r * 2 ^ g, 0, by simp, by lia⟩
theorem mul_room {p m1 e1 m2 e2 n e lo : Int} {l1 v1 l2 v2 : Nat} (hp : Prec p) (hn1 : Num p l1 v1 m1 e1) (hn2 : Num p l2 v2 m2 e2) (h : MulOk p l1 v1 m1 e1 l2 v2 m2 e2 n e) (a : lo ≤ e1 + e2) (b : lo ≤ e) (d : lo = e1 + e2 ∨ lo = e) :
    FF p.toNat (m1 * m2 * 2 ^ (e1 + e2 - lo).toNat - n * 2 ^ (e - lo).toNat) := by
  refine sr_room hp ?_ h.sr a b
  rw [Int.natAbs_mul, Nat.pow_add]
  have h0 : m1.natAbs * m2.natAbs ≤ m1.natAbs * 2 ^ p.toNat := Nat.mul_le_mul_left _ (Nat.le_of_lt hn2.lt)
  exact Nat.lt_of_le_of_lt h0 (Nat.mul_lt_mul_of_pos_right hn1.lt (Nat.pow_pos (by decide)))
theorem rd_err {p : Nat} {A K b rem r : Int} {g : Nat} {c : Prop} [Decidable c] (hg : 2 ≤ g) (hA : A = K * b + rem) (h0 : 0 ≤ rem) (h1 : rem < b) (hc : c ↔ rem ≠ 0) (h : RndG p (2 * K + (if c then 1 else 0)) g r) : (2 * A - r * 2 ^ g * b).natAbs * 2 ≤ 2 ^ g * b.natAbs := by
  obtain ⟨_, n1, n2, _⟩ := rndG_iff.mp h
  have eg : (2:Int)^g = 4 * 2^(g-2) := by
    have : (2:Int)^g = 2^(g-2+2) := by congr 1; omega
    rw [this, pwadd]; lia
  have hD := pwpos (g-2)
  have hG := pw g
  generalize (2:Int)^(g-2) = D at eg hD
  rw [eg] at n1 n2
  have er : r * (4 * D) = 4 * (r * D) := by rw [Int.mul_left_comm]
  rw [er] at n1 n2
  have mono : ∀ x y : Int, x ≤ y → x * b ≤ y * b := fun x y h => Int.mul_le_mul_of_nonneg_right h (by lia)
  have key : -(2 * D * b) ≤ 2 * A - r * 2 ^ g * b ∧ 2 * A - r * 2 ^ g * b ≤ 2 * D * b := by
    rw [eg, er, hA]
    have x1 : 2 * (K * b + rem) - 4 * (r * D) * b = (2 * K - 4 * (r * D)) * b + 2 * rem := by
      rw [Int.sub_mul, Int.mul_assoc 2 K]; lia
    rw [x1, ← Int.neg_mul]
    by_cases hr : rem = 0
    · rw [if_neg (by rw [hc]; exact fun h => h hr)] at n1 n2
      subst hr
      exact ⟨by have := mono (-(2 * D)) (2 * K - 4 * (r * D)) (by lia); omega, by have := mono (2 * K - 4 * (r * D)) (2 * D) (by lia); omega⟩
    · rw [if_pos (hc.mpr hr)] at n1 n2
      refine ⟨by have := mono (-(2 * D)) (2 * K - 4 * (r * D)) (by lia); omega, ?_⟩
      have := mono (2 * K - 4 * (r * D) + 2) (2 * D) (by lia)
      rw [Int.add_mul] at this
      lia
  have e5 : ((2 ^ g * b.natAbs : Nat) : Int) = 2 * (2 * D * b) := by
    rw [Int.natCast_mul, hG, eg, show (b.natAbs : Int) = b by lia, Int.mul_assoc, Int.mul_assoc]; lia
  generalize 2 * D * b = Z at *
  omega
theorem rd_ff {p : Nat} {A K b rem r : Int} {g : Nat} {c : Prop} [Decidable c] (hg : 2 ≤ g) (hA : A = K * b + rem) (h0 : 0 ≤ rem) (h1 : rem < b) (hc : c ↔ rem ≠ 0) (h : RndG p (2 * K + (if c then 1 else 0)) g r) (hb : b.natAbs < 2 ^ p) (hd : (2:Int) ^ g ∣ 2 * A) : FF p (2 * A - r * 2 ^ g * b) := by
  have h2 := rd_err hg hA h0 h1 hc h
  refine ff_dvd (k := g) (Int.dvd_sub hd ⟨r * b, by rw [← Int.mul_assoc, Int.mul_comm (2 ^ g)]⟩) ?_
  have h3 : 2 ^ g * b.natAbs ≤ 2 ^ g * 2 ^ p := Nat.mul_le_mul_left _ (Nat.le_of_lt hb)
  rw [Nat.pow_add, Nat.mul_comm (2 ^ p)]
  omega
theorem div_room {p m1 e1 m2 e2 n e lo : Int} {l1 v1 l2 v2 : Nat} (hp : Prec p) (hn1 : Num p l1 v1 m1 e1) (hn2 : Num p l2 v2 m2 e2) (hz : m2 ≠ 0) (h : DV p m1 e1 m2 e2 n e) (a : lo ≤ e1) (b : lo ≤ e + e2) (d : lo = e1 ∨ lo = e + e2) :
    FF p.toNat (m1 * 2 ^ (e1 - lo).toNat - n * m2 * 2 ^ (e + e2 - lo).toNat) := by
  have b1 := hn1.lo
  have hp0 := hp.lo
  have hP : 1 ≤ p.toNat := by lia
  have hpre := div_pre hp hn1 hn2 hz
  obtain ⟨q1, q2, q3, q4, q5, q6⟩ := hpre
  obtain ⟨u, bb, hrd, hl⟩ := h
  have hbB : (if m2 < 0 then -m2 else m2).natAbs < 2 ^ p.toNat := by
    have := hn2.lt
    have h3 : (if m2 < 0 then -m2 else m2).natAbs = m2.natAbs := by split <;> lia
    rw [h3]; exact this
  have hm2 : m2 = (if m2 < 0 then -m2 else m2) * m2.sign := by
    rcases Int.lt_trichotomy m2 0 with h | h | h
    · rw [if_pos h, Int.sign_eq_neg_one_of_neg h]; lia
    · exact absurd h hz
    · rw [if_neg (by omega), Int.sign_eq_one_of_pos h]; lia
  have hss : m2.sign * m2.sign = 1 := by
    rcases Int.lt_trichotomy m2 0 with h | h | h
    · rw [Int.sign_eq_neg_one_of_neg h]; rfl
    · exact absurd h hz
    · rw [Int.sign_eq_one_of_pos h]; rfl
  have hm1 : m1 = m1 * m2.sign * m2.sign := by rw [Int.mul_assoc, hss, Int.mul_one]
  generalize hBe : (if m2 < 0 then -m2 else m2) = B at *
  generalize hNe : m1 * m2.sign = N at *
  have trivialcase : n = 0 → FF p.toNat (m1 * 2 ^ (e1 - lo).toNat - n * m2 * 2 ^ (e + e2 - lo).toNat) := by
    intro h0
    rw [h0, Int.zero_mul, Int.zero_mul, Int.sub_zero]
    exact ff_mul ⟨m1, 0, by simp, Nat.le_of_lt hn1.lt⟩
  rcases hrd with ⟨_, ru, _⟩ | ⟨hN, g, r, hr, hlr⟩
  · rcases hl with ⟨_, h0, _⟩ | ⟨h0, _⟩
    · exact trivialcase h0
    · exact absurd ru h0
  · rcases hl with ⟨_, h0, _⟩ | ⟨h0, _, k2, ek2, eu⟩
    · exact trivialcase h0
    · rcases hlr with ⟨_, h1, _⟩ | ⟨_, _, k, ek, er⟩
      · exact absurd h1 h0
      · -- scale by the shift
        have zn := sz_nonneg N
        obtain ⟨k0, k1⟩ := rd_hi hp q1 q2 q4
        have k3 := rd_lo hp hN q1 q2 q4
        have hst := ite01 (c := ((((if N < 0 then -N else N) * 2 ^ (p + 2 + sz B - sz N).toNat).fmod B != 0) = true))
        have hA : (if N < 0 then -N else N) * 2 ^ (p + 2 + sz B - sz N).toNat = ((if N < 0 then -N else N) * 2 ^ (p + 2 + sz B - sz N).toNat).fdiv B * B + ((if N < 0 then -N else N) * 2 ^ (p + 2 + sz B - sz N).toNat).fmod B := by
          rw [Int.mul_comm _ B]; exact (Int.mul_fdiv_add_fmod _ _).symm
        have f0 := Int.fmod_nonneg_of_pos ((if N < 0 then -N else N) * 2 ^ (p + 2 + sz B - sz N).toNat) q4
        have f1 := Int.fmod_lt_of_pos ((if N < 0 then -N else N) * 2 ^ (p + 2 + sz B - sz N).toNat) q4
        have hc : ((((if N < 0 then -N else N) * 2 ^ (p + 2 + sz B - sz N).toNat).fmod B != 0) = true) ↔ ((if N < 0 then -N else N) * 2 ^ (p + 2 + sz B - sz N).toNat).fmod B ≠ 0 := bne_iff_ne
        have hAA : (if N < 0 then -N else N) = N.sign * N := by
          rcases Int.lt_trichotomy N 0 with h | h | h
          · rw [if_pos h, Int.sign_eq_neg_one_of_neg h]; lia
          · exact absurd h hN
          · rw [if_neg (by lia), Int.sign_eq_one_of_pos h]; lia
        generalize hSe : (p + 2 + sz B - sz N).toNat = s at *
        generalize hKe : ((if N < 0 then -N else N) * 2 ^ s).fdiv B = K at *
        generalize hRe : ((if N < 0 then -N else N) * 2 ^ s).fmod B = rem at *
        generalize hWe : (if (rem != 0) = true then (1:Int) else 0) = st at *
        have hV : RndG p.toNat (2 * K + st) g (N.sign * r) := by
          rcases Int.lt_trichotomy N 0 with h | h | h
          · rw [Int.sign_eq_neg_one_of_neg h] at hr ⊢
            have := rndG_neg hr
            rw [Int.neg_one_mul, Int.neg_neg] at this
            rw [Int.neg_one_mul]; exact this
          · exact absurd h hN
          · rw [Int.sign_eq_one_of_pos h] at hr ⊢
            rw [Int.one_mul] at *; exact hr
        have p3 := pw (p.toNat + 3)
        have p1 := pw (p.toNat + 1)
        have p4 : 2 ^ (p.toNat + 4) = 2 * 2 ^ (p.toNat + 3) := by rw [Nat.pow_succ, Nat.mul_comm]
        have p2 : 2 ^ (p.toNat - 1 + 3) = 2 * 2 ^ (p.toNat + 1) := by rw [Nat.mul_comm, ← Nat.pow_succ]; congr 1; lia
        have hg3 : 3 ≤ g := bin_ge hP (rndG_iff.mp hV).1 (by omega)
        have hg4 : g ≤ 4 := bin_le hP (rndG_iff.mp hV).1 (by omega)
        have hsN : (s : Int) = p + 2 + sz B - sz N := by lia
        have hs1 : g ≤ s + 1 := by lia
        rw [← hWe] at hV
        have hd : (2:Int) ^ g ∣ 2 * ((if N < 0 then -N else N) * 2 ^ s) := by
          refine Int.dvd_trans (pwdvd hs1) ⟨(if N < 0 then -N else N), ?_⟩
          rw [Int.pow_succ]; simp only [Int.mul_comm, Int.mul_left_comm]
        have hff := rd_ff (by lia) hA f0 f1 hc hV hbB hd
        refine ff_unmul (j := s + 1) ?_
        have eX : (m1 * 2 ^ (e1 - lo).toNat - n * m2 * 2 ^ (e + e2 - lo).toNat) * 2 ^ (s + 1) = (N.sign * m2.sign) * (2 * ((if N < 0 then -N else N) * 2 ^ s) - N.sign * r * 2 ^ g * B) * 2 ^ (e1 - lo).toNat := by
          have hNN : N.sign * N.sign = 1 := by
            rcases Int.lt_trichotomy N 0 with h | h | h
            · rw [Int.sign_eq_neg_one_of_neg h]; rfl
            · exact absurd h hN
            · rw [Int.sign_eq_one_of_pos h]; rfl
          have x1 : (2:Int) ^ (e + e2 - lo).toNat * 2 ^ (s + 1) = 2 ^ k2 * 2 ^ k * 2 ^ g * 2 ^ (e1 - lo).toNat := by
            rw [← pwadd, ← pwadd, ← pwadd, ← pwadd]; congr 1; lia
          have x2 : n * m2 * 2 ^ (e + e2 - lo).toNat * 2 ^ (s + 1) = r * 2 ^ g * m2 * 2 ^ (e1 - lo).toNat := by
            rw [Int.mul_assoc (n * m2), x1, er, eu]
            simp only [Int.mul_assoc, Int.mul_comm, Int.mul_left_comm]
          have x3 : N.sign * m2.sign * (2 * ((if N < 0 then -N else N) * 2 ^ s)) = m1 * 2 ^ (s + 1) := by
            rw [hAA, Int.pow_succ]
            have : N.sign * m2.sign * (2 * (N.sign * N * 2 ^ s)) = (N.sign * N.sign) * (N * m2.sign) * (2 ^ s * 2) := by
              simp only [Int.mul_assoc, Int.mul_comm, Int.mul_left_comm]
            rw [this, hNN, Int.one_mul, ← hm1]
          have x4 : N.sign * m2.sign * (N.sign * r * 2 ^ g * B) = r * 2 ^ g * m2 := by
            have : N.sign * m2.sign * (N.sign * r * 2 ^ g * B) = (N.sign * N.sign) * (r * 2 ^ g) * (B * m2.sign) := by
              simp only [Int.mul_assoc, Int.mul_comm, Int.mul_left_comm]
            rw [this, hNN, Int.one_mul, ← hm2]
          rw [Int.sub_mul, x2, Int.mul_sub, x3, x4, Int.sub_mul]
          congr 1
          rw [Int.mul_assoc, Int.mul_assoc, Int.mul_comm (2 ^ (e1 - lo).toNat)]
        rw [eX]
        refine ff_mul ?_
        have hsg : N.sign * m2.sign = 1 ∨ N.sign * m2.sign = -1 := by
          have a1 := sign_le N
          have a2 := sign_le m2
          have a3 : N.sign ≠ 0 := fun h => hN (Int.sign_eq_zero_iff_zero.mp h)
          have a4 : m2.sign ≠ 0 := fun h => hz (Int.sign_eq_zero_iff_zero.mp h)
          rcases a1 with h | h | h <;> rcases a2 with h' | h' | h' <;> first | exact absurd h a3 | exact absurd h' a4 | (rw [h, h']; decide)
        rcases hsg with h | h <;> rw [h]
        · rw [Int.one_mul]; exact hff
        · rw [Int.neg_one_mul]; exact ff_neg hff
theorem isq_le {a b : Int} (h0 : 0 ≤ a) (h : a ≤ b) : a * a ≤ b * b := Int.mul_le_mul h h h0 (by lia)
/-- the square of a rounded root leaves a float -/
theorem sq_ff {p : Nat} {N R r : Int} {g : Nat} {c : Prop} [Decidable c] (hp : 1 ≤ p) (hg : 2 ≤ g) (hR : 0 ≤ R) (h1 : R * R ≤ N) (h2 : N < (R + 1) * (R + 1)) (hc : c ↔ R * R ≠ N) (h : RndG p (2 * R + (if c then 1 else 0)) g r) (hd : (2:Int) ^ (g + g) ∣ 4 * N) : FF p (4 * N - r * 2 ^ g * (r * 2 ^ g)) := by
  obtain ⟨hb, n1, n2, _⟩ := rndG_iff.mp h
  have eg : (2:Int)^g = 4 * 2^(g-2) := by
    have : (2:Int)^g = 2^(g-2+2) := by congr 1; lia
    rw [this, pwadd]; lia
  have hD := pwpos (g-2)
  have hst := ite01 (c := c)
  have hrp : r.natAbs ≤ 2 ^ p := by
    have hf : FF p (r * 2 ^ g) := rnd_ff hp ⟨g, r, h, rfl⟩
    obtain ⟨b2, _⟩ := hb
    apply Nat.le_of_not_lt
    intro hlt
    have h3 : (2 ^ p + 1) * 2 ^ g ≤ r.natAbs * 2 ^ g := Nat.mul_le_mul_right _ hlt
    have h4 := spec_bound (rndG_iff.mp h).2
    rw [Nat.add_mul, ← Nat.pow_add] at h3
    have h5 := natAbs_mul_pw r g
    have := Nat.pow_pos (n := g) (show 0 < 2 by decide)
    omega
  obtain ⟨b1, b2⟩ := hb
  have b3 := b2 (by lia)
  have b4 : 2 ^ g ≤ 2 ^ (p - 1 + g) := pwle (by lia)
  have hG := pw g
  generalize hDe : (2:Int)^(g-2) = D at eg hD
  have er : r * 2 ^ g = 4 * (r * D) := by rw [eg, Int.mul_left_comm]
  rw [er] at n1 n2
  rw [eg] at n1 n2 hG
  -- the two squares about 4 * N
  have hY : 0 ≤ 4 * (r * D) - 2 * D := by lia
  have key : (4 * (r * D) - 2 * D) * (4 * (r * D) - 2 * D) ≤ 4 * N ∧ 4 * N ≤ (4 * (r * D) + 2 * D) * (4 * (r * D) + 2 * D) := by
    have e1 : (2 * R) * (2 * R) = 4 * (R * R) := by rw [Int.mul_assoc, Int.mul_left_comm R]; lia
    have e2 : (2 * R + 2) * (2 * R + 2) = 4 * ((R + 1) * (R + 1)) := by
      have : 2 * R + 2 = 2 * (R + 1) := by lia
      rw [this, Int.mul_assoc, Int.mul_left_comm (R + 1)]; lia
    by_cases hr : R * R = N
    · rw [if_neg (by rw [hc]; exact fun h => h hr)] at n1 n2
      have s1 := isq_le hY (show 4 * (r * D) - 2 * D ≤ 2 * R by lia)
      have s2 := isq_le (show 0 ≤ 2 * R by lia) (show 2 * R ≤ 4 * (r * D) + 2 * D by lia)
      lia
    · rw [if_pos (hc.mpr hr)] at n1 n2
      have s1 := isq_le hY (show 4 * (r * D) - 2 * D ≤ 2 * R by lia)
      have s2 := isq_le (show 0 ≤ 2 * R + 2 by lia) (show 2 * R + 2 ≤ 4 * (r * D) + 2 * D by lia)
      lia
  have eW : (2:Int) ^ (g + g) = 16 * (D * D) := by
    rw [pwadd, eg]; simp only [Int.mul_assoc, Int.mul_left_comm D]; lia
  obtain ⟨t, ht⟩ := hd
  have hDD : 0 < D * D := Int.mul_pos hD hD
  have eY : r * 2 ^ g * (r * 2 ^ g) = 2 ^ (g + g) * (r * r) := by
    rw [pwadd]; simp only [Int.mul_assoc, Int.mul_comm, Int.mul_left_comm]
  have eE : 4 * N - r * 2 ^ g * (r * 2 ^ g) = (t - r * r) * 2 ^ (g + g) := by
    rw [eY, ht, ← Int.mul_sub, Int.mul_comm]
  refine ⟨t - r * r, g + g, eE, ?_⟩
  have q1 : (4 * (r * D) - 2 * D) * (4 * (r * D) - 2 * D) = (16 * (r * r) - 16 * r + 4) * (D * D) := by
    grind
  have q2 : (4 * (r * D) + 2 * D) * (4 * (r * D) + 2 * D) = (16 * (r * r) + 16 * r + 4) * (D * D) := by
    grind
  have q3 : 4 * N = (16 * t) * (D * D) := by rw [ht, eW]; simp only [Int.mul_assoc, Int.mul_comm, Int.mul_left_comm]
  rw [q1, q2, q3] at key
  have k1 := Int.le_of_mul_le_mul_right key.1 hDD
  have k2 := Int.le_of_mul_le_mul_right key.2 hDD
  lia
theorem sqrt_room {p m1 e1 n e lo : Int} {l1 v1 : Nat} (hp : Prec p) (hn1 : Num p l1 v1 m1 e1) (hz : ¬ m1 = 0) (hz1 : ¬ m1 < 0) (h : SQ p m1 e1 n e) (a : lo ≤ e1) (b : lo ≤ 2 * e) (d : lo = e1 ∨ lo = 2 * e) :
    FF p.toNat (m1 * 2 ^ (e1 - lo).toNat - n * n * 2 ^ (2 * e - lo).toNat) := by
  have hp0 := hp.lo
  have hP : 1 ≤ p.toNat := by lia
  have hm : 0 < m1 := by lia
  have hsz := hn1.size hp
  obtain ⟨s, R, s0, s1, s2, s3, R0, R1, R2, g, r, hr, hl⟩ := h
  rcases hl with ⟨_, h0, _⟩ | ⟨_, _, k, ek, er⟩
  · rw [h0, Int.zero_mul, Int.zero_mul, Int.sub_zero]
    exact ff_mul ⟨m1, 0, by simp, Nat.le_of_lt hn1.lt⟩
  · have hc : ((R * R != m1 * 2 ^ s.toNat) = true) ↔ R * R ≠ m1 * 2 ^ s.toNat := bne_iff_ne
    have hst := ite01 (c := ((R * R != m1 * 2 ^ s.toNat) = true))
    obtain ⟨hb1, hb2⟩ := (rndG_iff.mp hr).1
    have z2 := (sz_ge (show m1 ≠ 0 by omega)).2
    have hN1 : 2 ^ (2 * p.toNat + 3) ≤ (m1 * 2 ^ s.toNat).natAbs := by
      rw [natAbs_mul_pw]
      have h3 : 2 ^ (sz m1 - 1).toNat * 2 ^ s.toNat ≤ m1.natAbs * 2 ^ s.toNat := Nat.mul_le_mul_right _ z2
      rw [← Nat.pow_add] at h3
      exact Nat.le_trans (pwle (by lia)) h3
    have hN2 : (m1 * 2 ^ s.toNat).natAbs < 2 ^ (p.toNat + s.toNat) := by
      rw [natAbs_mul_pw, Nat.pow_add]
      exact Nat.mul_lt_mul_of_pos_right hn1.lt (Nat.pow_pos (by decide))
    have hNp : 0 ≤ m1 * 2 ^ s.toNat := Int.mul_nonneg (by lia) (Int.le_of_lt (pwpos _))
    have hVb : 2 ^ (p.toNat + 1) ≤ R.natAbs := by
      apply Nat.le_of_not_lt
      intro hlt
      have h3 := pw (p.toNat + 1)
      have h4 := isq_le (show 0 ≤ R + 1 by lia) (show R + 1 ≤ 2 ^ (p.toNat + 1) by lia)
      rw [← pwadd] at h4
      have h5 := pw (p.toNat + 1 + (p.toNat + 1))
      have h6 : 2 ^ (p.toNat + 1 + (p.toNat + 1)) ≤ 2 ^ (2 * p.toNat + 3) := pwle (by lia)
      lia
    have p2 : 2 ^ (p.toNat - 1 + 3) = 2 * 2 ^ (p.toNat + 1) := by rw [Nat.mul_comm, ← Nat.pow_succ]; congr 1; lia
    have hg3 : 3 ≤ g := bin_ge hP (rndG_iff.mp hr).1 (by lia)
    -- 2 g ≤ s + 2
    have hgs : g + g ≤ s.toNat + 2 := by
      have h3 := hb2 (by lia)
      have e1 : 2 ^ (p.toNat - 1 + g) = 2 * 2 ^ (p.toNat + g - 2) := by rw [Nat.mul_comm, ← Nat.pow_succ]; congr 1; lia
      have h4 : ((2 ^ (p.toNat + g - 2) : Nat) : Int) ≤ R := by lia
      have h5 := pw (p.toNat + g - 2)
      have h6 := isq_le (show (0:Int) ≤ 2 ^ (p.toNat + g - 2) by have := pwpos (p.toNat + g - 2); lia) (show (2:Int) ^ (p.toNat + g - 2) ≤ R by lia)
      rw [← pwadd] at h6
      have h7 := pw (p.toNat + g - 2 + (p.toNat + g - 2))
      have h8 : 2 ^ (p.toNat + g - 2 + (p.toNat + g - 2)) < 2 ^ (p.toNat + s.toNat) := by lia
      have := pwlt h8
      lia
    have hd : (2:Int) ^ (g + g) ∣ 4 * (m1 * 2 ^ s.toNat) := by
      refine Int.dvd_trans (pwdvd hgs) ⟨m1, ?_⟩
      rw [pwadd]
      have : (2:Int) ^ 2 = 4 := by decide
      rw [this]
      ac_rfl
    have hff := sq_ff hP (by lia) R0 R1 R2 hc hr hd
    refine ff_unmul (j := s.toNat + 2) ?_
    have eX : (m1 * 2 ^ (e1 - lo).toNat - n * n * 2 ^ (2 * e - lo).toNat) * 2 ^ (s.toNat + 2) = (4 * (m1 * 2 ^ s.toNat) - r * 2 ^ g * (r * 2 ^ g)) * 2 ^ (e1 - lo).toNat := by
      have x1 : (2:Int) ^ (2 * e - lo).toNat * 2 ^ (s.toNat + 2) = 2 ^ k * 2 ^ k * (2 ^ g * 2 ^ g) * 2 ^ (e1 - lo).toNat := by
        rw [← pwadd, ← pwadd, ← pwadd, ← pwadd, ← pwadd]; congr 1; lia
      have x2 : n * n * 2 ^ (2 * e - lo).toNat * 2 ^ (s.toNat + 2) = r * 2 ^ g * (r * 2 ^ g) * 2 ^ (e1 - lo).toNat := by
        rw [Int.mul_assoc (n * n), x1, er]
        simp only [Int.mul_assoc, Int.mul_comm, Int.mul_left_comm]
      rw [Int.sub_mul, x2, Int.sub_mul, pwadd]
      congr 1
      have : (2:Int) ^ 2 = 4 := by decide
      rw [this]
      simp only [Int.mul_assoc, Int.mul_comm, Int.mul_left_comm]
    rw [eX]
    exact ff_mul hff
theorem sqrt_room0 {p m1 : Int} {a b : Nat} (h : m1 = 0) : FF p.toNat (m1 * 2 ^ a - m1 * m1 * 2 ^ b) := by
  subst h
  exact ⟨0, 0, by simp, by simp⟩
theorem mono_add {p m1 e1 m2 e2 m3 e3 lo na ea nb eb : Int} (hp : Prec p) (hn1 : Num p 4 60 m1 e1) (hn2 : Num p 4 60 m2 e2) (l1 : lo ≤ e1) (l2 : lo ≤ e2)
    (h : m1 * 2 ^ (e1 - lo).toNat ≤ m2 * 2 ^ (e2 - lo).toNat) (A : AddOk p 4 60 m1 e1 4 60 m3 e3 na ea) (B : AddOk p 4 60 m2 e2 4 60 m3 e3 nb eb) : rv na ea ≤ rv nb eb := by
  have b1 := hn1.lo
  have b2 := hn2.lo
  have := rv_le l1 l2 (by lia) (by lia) h
  exact rnd_mono (by have := hp.lo; lia) A.rnd B.rnd (by lia)
theorem rv_mul {m1 e1 m2 e2 : Int} (h1 : -200 ≤ e1) (h2 : -200 ≤ e2) : rv m1 e1 * rv m2 e2 = rv (m1 * m2) (e1 + e2) * 2 ^ 400 := by
  unfold rv
  have : (e1 + e2 + 400).toNat + 400 = (e1 + 400).toNat + (e2 + 400).toNat := by lia
  rw [Int.mul_assoc (m1 * m2), ← pwadd, this, pwadd]
  ac_rfl
theorem mono_mul {p m1 e1 m2 e2 m3 e3 lo na ea nb eb : Int} (hp : Prec p) (hn1 : Num p 4 60 m1 e1) (hn2 : Num p 4 60 m2 e2) (hn3 : Num p 4 60 m3 e3) (l1 : lo ≤ e1) (l2 : lo ≤ e2)
    (h : m1 * 2 ^ (e1 - lo).toNat ≤ m2 * 2 ^ (e2 - lo).toNat) (A : MulOk p 4 60 m1 e1 4 60 m3 e3 na ea) (B : MulOk p 4 60 m2 e2 4 60 m3 e3 nb eb) :
    (0 ≤ m3 → rv na ea ≤ rv nb eb) ∧ (m3 < 0 → rv nb eb ≤ rv na ea) := by
  have b1 := hn1.lo
  have b2 := hn2.lo
  have b3 := hn3.lo
  have h1 := rv_le l1 l2 (by lia) (by lia) h
  have rA := (sr_rnd hp (by lia) A.sr).1
  have rB := (sr_rnd hp (by lia) B.sr).1
  have hP : 1 ≤ p.toNat := by have := hp.lo; lia
  refine ⟨fun h3 => rnd_mono hP rA rB (ple (k := 400) ?_), fun h3 => rnd_mono hP rB rA (ple (k := 400) ?_)⟩
  · rw [← rv_mul (by lia) (by lia), ← rv_mul (by lia) (by lia)]
    exact Int.mul_le_mul_of_nonneg_right h1 (Int.mul_nonneg h3 (Int.le_of_lt (pwpos _)))
  · rw [← rv_mul (by lia) (by lia), ← rv_mul (by lia) (by lia)]
    have hneg : rv m3 e3 ≤ 0 := by
      have := rv_pos (e := e3) (show 0 < -m3 by lia)
      rw [rv_neg] at this
      lia
    exact Int.mul_le_mul_of_nonpos_right h1 hneg
section
variable {p m1 e1 m2 e2 m3 e3 lo na ea nb eb : Int} (hp : Prec p) (hn1 : Num p 4 60 m1 e1) (hn2 : Num p 4 60 m2 e2) (hn3 : Num p 4 60 m3 e3) (l1 : lo ≤ e1) (l2 : lo ≤ e2)
include hp hn1 hn2 hn3 l1 l2
theorem ord_addA (h : m2 * 2 ^ (e2 - lo).toNat < m1 * 2 ^ (e1 - lo).toNat) (A : AddOk p 4 60 m2 e2 4 60 m3 e3 na ea) (B : AddOk p 4 60 m1 e1 4 60 m3 e3 nb eb) (bad : 0 < (rv na ea - rv nb eb).sign) : False := by
  have := mono_add hp hn2 hn1 l2 l1 (Int.le_of_lt h) A B
  have := Int.sign_eq_one_iff_pos.mp (show (rv na ea - rv nb eb).sign = 1 by have := sign_le (rv na ea - rv nb eb); omega)
  lia
theorem ord_addB (h : ¬ m2 * 2 ^ (e2 - lo).toNat < m1 * 2 ^ (e1 - lo).toNat) (A : AddOk p 4 60 m1 e1 4 60 m3 e3 na ea) (B : AddOk p 4 60 m2 e2 4 60 m3 e3 nb eb) (bad : 0 < (rv na ea - rv nb eb).sign) : False := by
  have := mono_add hp hn1 hn2 l1 l2 (Int.not_lt.mp h) A B
  have := Int.sign_eq_one_iff_pos.mp (show (rv na ea - rv nb eb).sign = 1 by have := sign_le (rv na ea - rv nb eb); omega)
  lia
theorem ord_mulA (h : m2 * 2 ^ (e2 - lo).toNat < m1 * 2 ^ (e1 - lo).toNat) (A : MulOk p 4 60 m2 e2 4 60 m3 e3 na ea) (B : MulOk p 4 60 m1 e1 4 60 m3 e3 nb eb) (neg : m3 < 0) : decide (0 ≤ (rv na ea - rv nb eb).sign) = true := by
  have := (mono_mul hp hn2 hn1 hn3 l2 l1 (Int.le_of_lt h) A B).2 neg
  apply decide_eq_true
  rcases sign_le (rv na ea - rv nb eb) with x | x | x
  · omega
  · omega
  · have := Int.sign_eq_neg_one_iff_neg.mp x
    omega
theorem ord_mulB (h : ¬ m2 * 2 ^ (e2 - lo).toNat < m1 * 2 ^ (e1 - lo).toNat) (A : MulOk p 4 60 m1 e1 4 60 m3 e3 na ea) (B : MulOk p 4 60 m2 e2 4 60 m3 e3 nb eb) (neg : m3 < 0) : decide (0 ≤ (rv na ea - rv nb eb).sign) = true := by
  have := (mono_mul hp hn1 hn2 hn3 l1 l2 (Int.not_lt.mp h) A B).2 neg
  apply decide_eq_true
  rcases sign_le (rv na ea - rv nb eb) with x | x | x
  · omega
  · omega
  · have := Int.sign_eq_neg_one_iff_neg.mp x
    omega
theorem ord_mulC (h : m2 * 2 ^ (e2 - lo).toNat < m1 * 2 ^ (e1 - lo).toNat) (A : MulOk p 4 60 m2 e2 4 60 m3 e3 na ea) (B : MulOk p 4 60 m1 e1 4 60 m3 e3 nb eb) (neg : ¬ m3 < 0) : decide ((rv na ea - rv nb eb).sign ≤ 0) = true := by
  have := (mono_mul hp hn2 hn1 hn3 l2 l1 (Int.le_of_lt h) A B).1 (by lia)
  apply decide_eq_true
  rcases sign_le (rv na ea - rv nb eb) with x | x | x
  · have := Int.sign_eq_one_iff_pos.mp x
    omega
  · omega
  · omega
theorem ord_mulD (h : ¬ m2 * 2 ^ (e2 - lo).toNat < m1 * 2 ^ (e1 - lo).toNat) (A : MulOk p 4 60 m1 e1 4 60 m3 e3 na ea) (B : MulOk p 4 60 m2 e2 4 60 m3 e3 nb eb) (neg : ¬ m3 < 0) : decide ((rv na ea - rv nb eb).sign ≤ 0) = true := by
  have := (mono_mul hp hn1 hn2 hn3 l1 l2 (Int.not_lt.mp h) A B).1 (by lia)
  apply decide_eq_true
  rcases sign_le (rv na ea - rv nb eb) with x | x | x
  · have := Int.sign_eq_one_iff_pos.mp x
    omega
  · omega
  · omega
end
theorem upd_far {full : List (Addr × Obj)} {xd : Addr} : ∀ p ∈ full.filter (fun p => p.1 != xd), p.1 ≠ xd := by
  intro p hp
  have := (List.mem_filter.mp hp).2
  simpa using this
theorem upd_from {h₀ h : Heap} {L xd : Addr} {o : Obj} {full : List (Addr × Obj)} {upd : Obj → List (Addr × Obj)} (U : ∀ o', Upd xd o o' full (upd o')) (N : News h₀ L h full) : News h₀ L h ((xd, o) :: full.filter (fun p => p.1 != xd)) := by
  obtain ⟨pre, post, e1, e2, a, b⟩ := (U o).split
  refine news_keep N ?_ fun p hp => (List.mem_filter.mp hp).1
  rw [e1]
  exact List.mem_append.mpr (.inr (.head _))
theorem upd_back {h₀ h : Heap} {L xd : Addr} {o o' : Obj} {full : List (Addr × Obj)} {upd : Obj → List (Addr × Obj)} (U : ∀ o', Upd xd o o' full (upd o')) (N : News h₀ L h ((xd, o') :: full.filter (fun p => p.1 != xd))) : News h₀ L h (upd o') := by
  obtain ⟨pre, post, e1, e2, a, b⟩ := (U o').split
  intro p hp
  rw [e2] at hp
  rcases List.mem_append.mp hp with hp | hp
  · exact N _ (.tail _ (List.mem_filter.mpr ⟨by rw [e1]; exact List.mem_append.mpr (.inl hp), by simpa using a p hp⟩))
  · rcases List.mem_cons.mp hp with rfl | hp
    · exact N _ (.head _)
    · exact N _ (.tail _ (List.mem_filter.mpr ⟨by rw [e1]; exact List.mem_append.mpr (.inr (.tail _ hp)), by simpa using b p hp⟩))
theorem upd_lt {xd d : Addr} {full : List (Addr × Obj)} (h1 : xd < d) (h2 : ∀ p ∈ full.filter (fun p => p.1 != xd), p.1 < d) : ∀ p ∈ full, p.1 < d := by
  intro p hp
  by_cases h : p.1 = xd
  · rw [h]; exact h1
  · exact h2 p (List.mem_filter.mpr ⟨hp, by simpa using h⟩)
theorem made_num {p n e n' e' : Int} {l : Nat} (hp : Prec p) (h1 : -(2 ^ p.toNat) < n) (h2 : n < 2 ^ p.toNat) (e1 : -(l : Int) ≤ e) (e2 : e ≤ 40) (hl : l ≤ 20) (h : SR p n e n' e') : Num p l 60 n' e' := by
  have hP := pw p.toNat
  have hhi := hp.hi
  rcases sr_info hp h (j := p.toNat) (by omega) with ⟨rfl, rfl⟩ | ⟨h1, h2, h3, h4⟩
  · exact ⟨Nat.pow_pos (by decide), fun _ => rfl, by lia, by omega⟩
  · exact ⟨h2, fun h0 => by lia, by lia, by lia⟩
theorem near_end {p m1 e1 m2 e2 n e lo lo' : Int} (hp : Prec p) (hn1 : Num p 11 60 m1 e1) (hn2 : Num p 11 60 m2 e2) (h : SubOk p 11 60 m1 e1 11 60 m2 e2 n e) (a1 : lo ≤ e1) (a2 : lo ≤ e2) (c1 : ¬ 2 * (m2 * 2 ^ (e2 - lo).toNat) < m1 * 2 ^ (e1 - lo).toNat) (c2 : ¬ 2 * (m1 * 2 ^ (e1 - lo).toNat) < m2 * 2 ^ (e2 - lo).toNat)
    (b1 : lo' ≤ lo) (b2 : lo' ≤ e) : (n * 2 ^ (e - lo').toNat == (m1 * 2 ^ (e1 - lo).toNat - m2 * 2 ^ (e2 - lo).toNat) * 2 ^ (lo - lo').toNat) = true := by
  have d1 := hn1.lo
  have d2 := hn2.lo
  have d3 := h.bde
  have hP : 1 ≤ p.toNat := by have := hp.lo; lia
  have f1 := rv_le (m1 := m1) (m2 := 2 * m2) a1 a2 (by lia) (by lia) (by rw [Int.mul_assoc]; omega)
  have f2 := rv_le (m1 := m2) (m2 := 2 * m1) a2 a1 (by lia) (by lia) (by rw [Int.mul_assoc]; omega)
  have g1 : rv (2 * m1) e1 = 2 * rv m1 e1 := Int.mul_assoc _ _ _
  have g2 : rv (2 * m2) e2 = 2 * rv m2 e2 := Int.mul_assoc _ _ _
  have hf := sub_exact hP (ff_rv (e := e1) hn1.lt) (ff_rv (e := e2) hn2.lt) (by lia) (by lia)
  have hx := rnd_exact hP h.rnd hf
  apply beq_iff_eq.mpr
  apply pcancel (k := (lo' - min lo' (-400)).toNat)
  have s1 : m1 * 2 ^ (e1 - lo).toNat * 2 ^ (lo - lo').toNat = m1 * 2 ^ (e1 - lo').toNat := by
    rw [Int.mul_assoc, ← pwadd]; congr 2; lia
  have s2 : m2 * 2 ^ (e2 - lo).toNat * 2 ^ (lo - lo').toNat = m2 * 2 ^ (e2 - lo').toNat := by
    rw [Int.mul_assoc, ← pwadd]; congr 2; lia
  rw [Int.sub_mul, s1, s2, Int.sub_mul, rv_lo b2 (by lia), rv_lo (by lia) (by lia), rv_lo (by lia) (by lia), ← Int.sub_mul, hx]
theorem pow_lo {k : Nat} : (1 : Int) ≤ 2 ^ k := by
  have : (0 : Int) < 2 ^ k := Int.pow_pos (by decide)
  omega
theorem pow_p {p : Int} (hp : Prec p) : (2 : Int) ^ p.toNat ≤ 8192 := by
  have h2 : 2 ^ p.toNat ≤ 2 ^ 13 := Nat.pow_le_pow_right (by decide) (by have := hp.hi; lia)
  have h3 : ((2 ^ p.toNat : Nat) : Int) ≤ ((2 ^ 13 : Nat) : Int) := Int.ofNat_le.mpr h2
  simpa using h3
theorem pow_half {p : Int} (hp : Prec p) : (2 : Int) ^ p.toNat = 2 * 2 ^ (p - 1).toNat := by
  have : p.toNat = (p - 1).toNat + 1 := by have := hp.lo; lia
  rw [this, Int.pow_succ, Int.mul_comm]
theorem news_pick3 {h₀ h : Heap} {L x d c : Addr} {o o2 o3 : Obj} {big news : List (Addr × Obj)} (N : News h₀ L h big) (h1 : (x, o) ∈ big) (h2 : (d, o2) ∈ big) (h3 : (c, o3) ∈ big) (hs : ∀ p ∈ news, p ∈ big) : News h₀ L h ((x, o) :: (d, o2) :: (c, o3) :: news) :=
  news_pick N h1 h2 fun p hp => by
    rcases List.mem_cons.mp hp with rfl | hp
    · exact h3
    · exact hs _ hp
theorem low_at {d c : Addr} {o : Obj} {big : List (Addr × Obj)} (l : ∀ p ∈ big, p.1 < d) (h : (c, o) ∈ big) : c < d := l _ h
section
variable {prog : Program} {w : World} {A : Around} {E : Value → Shared → Prop} {s : Shared} {a b c : Int} {t u v : Tok} {Q : Value → Shared → Prop}
theorem mod_eight (h : Q (.int (a % 8) s.toks) { s with toks := s.toks + 1 }) : wpAny (model prog w) A (binaryOp .Mod (.int a t) (.int 8 u)) Q E s :=
  mod_int' (by decide) (by rw [Int.fmod_eq_emod_of_nonneg _ (by decide)]; exact h)
end
theorem near_fin {s : Shared} {h₀ h : Heap} {L xd : Addr} {m : Str → Option Value} {news : List (Addr × Obj)} {vs : List Value} {ns : List Int} {nd tk : Nat} {Q : Value → Shared → Prop} {b : Bool}
    (hret : ∀ vs' nd' ns' h' tk', IntsAre vs' ns' → Deck ns' → Fr h₀ L h' m → News h₀ L h' ((xd, listOf vs'.toArray nd') :: news) → Q (.bool true) { s with heap := h', toks := tk' })
    (N : News h₀ L h ((xd, listOf vs.toArray nd) :: news)) (hi : IntsAre vs ns) (hd : Deck ns) (F : Fr h₀ L h m) (e : b = true) : Q (.bool b) { s with heap := h, toks := tk } := by
  subst e
  exact hret _ _ _ _ _ hi hd F N
theorem news_back {h₀ h : Heap} {L xd x d : Addr} {o o' o1 o2 : Obj} {full : List (Addr × Obj)} {upd : Obj → List (Addr × Obj)} (U : ∀ o', Upd xd o o' full (upd o')) (N : News h₀ L h ((x, o1) :: (d, o2) :: (xd, o') :: full.filter (fun p => p.1 != xd))) : News h₀ L h ((x, o1) :: (d, o2) :: upd o') := by
  have N2 := upd_back U (fun p hp => N p (.tail _ (.tail _ hp)))
  intro p hp
  rcases List.mem_cons.mp hp with rfl | hp
  · exact N _ (.head _)
  · rcases List.mem_cons.mp hp with rfl | hp
    · exact N _ (.tail _ (.head _))
    · exact N2 _ hp
theorem pow_ne {a : Int} {k : Nat} (h : 0 < a) : a ^ k ≠ 0 := Int.ne_of_gt (Int.pow_pos h)
theorem deck_made (l : List Int) : Deck (List.map (fun k => (if k < 0 then -k else k).fmod (10 ^ Int.toNat 30)) (List.take 16 l)) := by
  refine ⟨by simp only [List.length_map, List.length_take]; lia, fun d hd => ?_⟩
  obtain ⟨k, _, rfl⟩ := List.mem_map.mp hd
  have h : (0 : Int) < 10 ^ Int.toNat 30 := Int.pow_pos (by decide)
  exact ⟨Int.fmod_nonneg_of_pos _ h, Int.fmod_lt_of_pos _ h⟩
theorem prec_made {r : Int} (h0 : 0 ≤ r) (h1 : r < 12) : Prec (2 + r) := ⟨by lia, by lia⟩
theorem news_lt {l : List (Addr × Obj)} {d x : Addr} (h : ∀ p ∈ l, p.1 < d) (h2 : d < x) : ∀ p ∈ l, p.1 < x := fun p hp => Nat.lt_trans (h p hp) h2
theorem news_dropI {h₀ h : Heap} {L x a d : Addr} {r : List (Addr × Obj)} (N : News h₀ L h ((x, instObj a d) :: r)) : News h₀ L h r := fun p hp => N p (.tail _ hp)
theorem news_dropD {h₀ h : Heap} {L x : Addr} {es : List DictEntry} {n : Nat} {r : List (Addr × Obj)} (N : News h₀ L h ((x, dictOf es n) :: r)) : News h₀ L h r := fun p hp => N p (.tail _ hp)
theorem news_dropL {h₀ h : Heap} {L x : Addr} {l : List Value} {r : List (Addr × Obj)} (N : News h₀ L h ((x, LCg.lst l) :: r)) : News h₀ L h r := fun p hp => N p (.tail _ hp)
end Mine
set_option maxRecDepth 100000
set_option maxHeartbeats 8000000
namespace Mine
example : PySem.Challenge.rw_pq1014_01 = PySem.Challenge.rw_pq1014_01 ∧ hd.heap_1 = hd.heap_1 := by
  k_fill
  exact ⟨rfl, rfl⟩

section
variable {w : World} {mean : ExcName → Option Value} {mg mb : Str → Option Value} {dp un : Nat} {gd : Option (List Code)} {cn : Str} {cs : Scope} {L a : Addr} {ccd : Value} {cl : List (Str × Addr)} {outer : List Env} {A₀ : Around} {base h₀ : Heap} {m : Str → Option Value} {s : Shared} {Q E : Value → Shared → Prop} {news : List (Addr × Obj)}
  (B : Below A₀ base outer h₀) (F : Fr h₀ L s.heap m) (X : (hd.heap_1 w.params).In h₀) (N : News h₀ L s.heap news) (T : Top view (looseW view [Str.ofString "REACH"]) mean mg mb h₀) (hk : cs.kind = .function)
local macro_rules | `(tactic| walk_at $s:str) => `(tactic| k_extra $s)
include B F X N T hk

theorem c_size {n : Int} {t : Tok} (hdp : dp + 2 < recursionLimit) (hu : un + 16 < cLine)
    (hret :  ∀ t h' tk', Fr h₀ L h' m → News h₀ L h' news → Q (.int (sz n) t) { s with heap := h', toks := tk' }) :
    wpAny (model PySem.Challenge.rw_pq1014_01.row.prog w) (ktrTop dp un gd cn cs L a ccd cl outer) (call (.ref 119) [.int n t]) Q E s := by
  refine wpAny_call ?_
  k_dflt ktr_enter
  k_steps
  all_goals exact cb_retI hret (sz_abs n) (by k_asm) (by k_asm)
example : True := by
  k_with "call ref" => (k_here; (with_reducible show wpAny _ _ (call (Value.ref 119) _) _ _ _); k_dflt (refine' c_size ?kB ?kF ?kX ?kN ?kT ?kk ?kd ?ku ?_; (case kB => k_asm); (case kF => k_asm); (case kX => k_asm); (case kN => k_asm); (case kT => k_asm); (case kk => first | exact rfl | assumption); (case kd => ktr_room); (case ku => ktr_units)); intro   t9 h9 tk9 F9 N9; (try k_sweep); (try dsimp only); (try k_fold))
  trivial

theorem c_sow {n : Int} {t : Tok} (hdp : dp + 2 < recursionLimit) (hu : un + 16 < cLine)
    (hret :  ∀ t h' tk', Fr h₀ L h' m → News h₀ L h' news → Q (.int (Int.sign n) t) { s with heap := h', toks := tk' }) :
    wpAny (model PySem.Challenge.rw_pq1014_01.row.prog w) (ktrTop dp un gd cn cs L a ccd cl outer) (call (.ref 126) [.int n t]) Q E s := by
  refine wpAny_call ?_
  k_dflt ktr_enter
  k_steps
  all_goals exact cb_retI hret (sow_eq n) (by k_asm) (by k_asm)
example : True := by
  k_with "call ref" => (k_here; (with_reducible show wpAny _ _ (call (Value.ref 126) _) _ _ _); k_dflt (refine' c_sow ?kB ?kF ?kX ?kN ?kT ?kk ?kd ?ku ?_; (case kB => k_asm); (case kF => k_asm); (case kX => k_asm); (case kN => k_asm); (case kT => k_asm); (case kk => first | exact rfl | assumption); (case kd => ktr_room); (case ku => ktr_units)); intro   t9 h9 tk9 F9 N9; (try k_sweep); (try dsimp only); (try k_fold))
  trivial

theorem c_zb {n : Int} {t : Tok} (hdp : dp + 2 < recursionLimit) (hu : un + 16 < cLine)
    (h0 : n ≠ 0)
    (hret : ∀ (k : Nat) (q : Int),  (n = q * 2 ^ k) → (q % 2 = 1) → ∀ t h' tk', Fr h₀ L h' m → News h₀ L h' news → Q (.int ((k : Int)) t) { s with heap := h', toks := tk' }) :
    wpAny (model PySem.Challenge.rw_pq1014_01.row.prog w) (ktrTop dp un gd cn cs L a ccd cl outer) (call (.ref 133) [.int n t]) Q E s := by
  refine wpAny_call ?_
  k_dflt ktr_enter
  k_steps
  
  obtain ⟨k, q, e1, e2, e3⟩ := zb_spec n h0
  all_goals exact cb_retI (hret k q e1 e2) e3 (by k_asm) (by k_asm)
example : True := by
  k_with "call ref" => (k_here; (with_reducible show wpAny _ _ (call (Value.ref 133) _) _ _ _); k_dflt (refine' c_zb ?kB ?kF ?kX ?kN ?kT ?kk ?kd ?ku ?kh0 ?_; (case kB => k_asm); (case kF => k_asm); (case kX => k_asm); (case kN => k_asm); (case kT => k_asm); (case kk => first | exact rfl | assumption); (case kd => ktr_room); (case ku => ktr_units); (case kh0 => (first | assumption | omega | exact Num.neg (by assumption) | l_bnd))); intro k q f9_0 f9_1 t9 h9 tk9 F9 N9; (try k_sweep); (try dsimp only); (try k_fold))
  trivial

theorem c_real {n e : Int} {t t2 : Tok} (hdp : dp + 3 < recursionLimit) (hu : un + 24 < cLine)
    (hret :  ∀ x d t1 t2 t3 t4 h' tk', Fr h₀ L h' m → News h₀ L h' ((x, instObj 108 d) :: (d, dictOf (rdict w (n) (e) t1 t2 t3 t4) 2) :: news) → (∀ p ∈ news, p.1 < d) → d < x → Q (.ref x) { s with heap := h', toks := tk' }) :
    wpAny (model PySem.Challenge.rw_pq1014_01.row.prog w) (ktrTop dp un gd cn cs L a ccd cl outer) (call (.ref 108) [.int n t, .int e t2]) Q E s := by
  k_dflt (refine' call_cls ?k1 ?k2 ?k3 ?k4 ?k5 ?k6 ?_; (case k1 => k_asm); (case k2 => k_asm); (case k3 => k_asm); (case k4 => k_is); (case k5 => k_is); (case k6 => k_is); intro x' d' h' F' N' l1 l2; (try k_lt2 l2); (try k_sweep); ktr_enter)
  k_steps
  all_goals exact hret _ _ _ _ _ _ _ _ (by k_asm) (by k_asm) (by assumption) (by assumption)
example : True := by
  k_with "call ref" => (k_here; (with_reducible show wpAny _ _ (call (Value.ref 108) _) _ _ _); k_dflt (refine' c_real ?kB ?kF ?kX ?kN ?kT ?kk ?kd ?ku ?_; (case kB => k_asm); (case kF => k_asm); (case kX => k_asm); (case kN => k_asm); (case kT => k_asm); (case kk => first | exact rfl | assumption); (case kd => ktr_room); (case ku => ktr_units)); intro   x9 d9 ta9 tb9 tc9 td9 h9 tk9 F9 N9 l9 l8; (have l7 := l9); (try k_lt l7); (try k_lt2 l8); (try k_sweep); (try dsimp only); (try k_fold))
  trivial
example : True := by
  k_with "binaryOp FloorDiv int int" => (k_here; (with_reducible refine floordiv_int ?kbe ?_ (Or.inl (PyProof.noPylong_small ?kbp))); (case kbe => (first | decide | assumption | omega)); (case kbp => (first | decide | assumption | omega)))
  trivial
example : True := by
  k_with "binaryOp Mod int int" => (k_here; (with_reducible refine mod_int' ?kbe ?_); (case kbe => (first | decide | assumption | omega)))
  trivial
example : True := by
  k_with "binaryOp Pow int int" => (k_here; (with_reducible refine pow_int_small ?kb1 ?kb2 ?kb3 ?_); (case kb1 => (first | decide | assumption | omega)); (case kb2 => (first | decide | assumption | omega)); (case kb3 => decide))
  trivial
local macro_rules | `(tactic| k_mem) => `(tactic| ((repeat (first | exact List.mem_cons_self | assumption | refine List.mem_cons_of_mem _ ?_)); done))
example : True := by
  k_with "binaryOp LShift int int" => (k_here; (with_reducible refine lshift_int_small ?kb1 ?kb2 ?kb3 ?_); (case kb1 => (first | assumption | omega)); (case kb2 => (first | assumption | omega)); (case kb3 => (first | decide | assumption | omega | exact natAbs_mul (by omega) (by omega))))
  trivial
example : True := by
  k_with "binaryOp RShift int int" => (k_here; (with_reducible refine rshift_int ?kb1 ?_); (case kb1 => (first | assumption | omega)))
  trivial
example : True := by
  k_with "call builtin:min" => (k_here; (with_reducible show wpAny _ _ (call (Value.builtin _) [Value.int _ _, Value.int _ _]) _ _ _); k_dflt (refine' min2_gen ?kh ?kF ?kN ?_; (case kh => exact rfl); (case kF => k_asm); (case kN => k_asm)); intro lo9 t9 h9 tk9 a9 b9 c9 F9 N9; (try k_sweep); (try dsimp only); (try k_fold))
  trivial
example : True := by
  k_with "call builtin:min" => (k_here; (with_reducible show wpAny _ _ (call (Value.builtin _) [Value.int _ _, Value.int _ _, Value.int _ _]) _ _ _); k_dflt (refine' min3_gen ?kh ?kF ?kN ?_; (case kh => exact rfl); (case kF => k_asm); (case kN => k_asm)); intro lo9 t9 h9 tk9 a9 b9 b8 c9 F9 N9; (try k_sweep); (try dsimp only); (try k_fold))
  trivial
example : True := by
  k_with "call builtin:max" => (k_here; (with_reducible show wpAny _ _ (call (Value.builtin _) [Value.int _ _, Value.int _ _]) _ _ _); k_dflt (refine' max2_gen ?kh ?kF ?kN ?_; (case kh => exact rfl); (case kF => k_asm); (case kN => k_asm)); intro lo9 t9 h9 tk9 a9 b9 c9 F9 N9; (try k_sweep); (try dsimp only); (try k_fold))
  trivial
example : True := by
  k_with "call ref" => (k_here; (with_reducible show wpAny _ _ (call (Value.ref 51) _) _ _ _); exfalso; exact PlaceOk.no (by assumption) (by assumption))
  trivial

theorem c_lean {n e : Int} {t t2 : Tok} (hdp : dp + 7 < recursionLimit) (hu : un + 56 < cLine)
    (hp : PlaceOk n e)
    (hret : ∀ (n' : Int) (e' : Int),  (LeanOf n e n' e') → ∀ x d t1 t2 t3 t4 h' tk', Fr h₀ L h' m → News h₀ L h' ((x, instObj 108 d) :: (d, dictOf (rdict w (n') (e') t1 t2 t3 t4) 2) :: news) → (∀ p ∈ news, p.1 < d) → d < x → Q (.ref x) { s with heap := h', toks := tk' }) :
    wpAny (model PySem.Challenge.rw_pq1014_01.row.prog w) (ktrTop dp un gd cn cs L a ccd cl outer) (call (.ref 140) [.int n t, .int e t2]) Q E s := by
  refine wpAny_call ?_
  k_dflt ktr_enter
  k_steps
  all_goals (
      refine' hret _ _ ?sp0 _ _ _ _ _ _ _ _ ?kf ?kn ?kl ?km
      case kf => k_asm
      case kn => first | k_asm | (refine' news_pick ?ka ?kb ?kc ?kd; (case ka => k_asm); (case kb => k_mem); (case kc => k_mem); (case kd => (intro p9 h9; (repeat (first | exact h9 | refine List.mem_cons_of_mem _ ?_)); done)))
      case kl => first | k_asm | (refine' low_pick ?ka ?kb; (case ka => k_asm); (case kb => (intro p9 h9; (repeat (first | exact h9 | refine List.mem_cons_of_mem _ ?_)); done)))
      case km => k_asm
      case sp0 => first | exact leanOf_zero (by assumption) | exact leanOf_shift (by assumption) (by assumption) (by assumption))
example : True := by
  k_with "call ref" => (k_here; (with_reducible show wpAny _ _ (call (Value.ref 140) _) _ _ _); k_dflt (refine' c_lean ?kB ?kF ?kX ?kN ?kT ?kk ?kd ?ku ?khp ?_; (case kB => k_asm); (case kF => k_asm); (case kX => k_asm); (case kN => k_asm); (case kT => k_asm); (case kk => first | exact rfl | assumption); (case kd => ktr_room); (case ku => ktr_units); (case khp => (first | assumption | omega | (unfold PlaceOk; omega) | exact placeOk_near (by assumption) (by omega) (by omega) (by assumption) (by assumption) (by assumption) | l_bnd))); intro n' e' f9_0 x9 d9 ta9 tb9 tc9 td9 h9 tk9 F9 N9 l9 l8; (have l7 := l9); (try k_lt l7); (try k_lt2 l8); (try k_sweep); (try dsimp only); (try k_fold))
  trivial

theorem c_near {n g : Int} {t t2 : Tok} (hdp : dp + 2 < recursionLimit) (hu : un + 16 < cLine)
    (h0 : 0 ≤ n)
    (h1 : 1 ≤ g)
    (h2 : g ≤ 100000)
    (hret : ∀ (r : Int),  (NSpec n g.toNat r) → ∀ t h' tk', Fr h₀ L h' m → News h₀ L h' news → Q (.int (r) t) { s with heap := h', toks := tk' }) :
    wpAny (model PySem.Challenge.rw_pq1014_01.row.prog w) (ktrTop dp un gd cn cs L a ccd cl outer) (call (.ref 147) [.int n t, .int g t2]) Q E s := by
  refine wpAny_call ?_
  k_dflt ktr_enter
  k_steps
  all_goals (
      refine' hret _ ?sp0 _ _ _ ?kf ?kn
      case kf => k_asm
      case kn => first | k_asm | (refine' cb_drop ?ka ?kb; (case ka => k_asm); (case kb => (intro p9 h9; (repeat (first | exact h9 | refine List.mem_cons_of_mem _ ?_)); done)))
      case sp0 => first | exact near_up h0 h1 (by assumption) | exact near_tu h0 h1 (by assumption) (by assumption) | exact near_td h0 h1 (by assumption) (by assumption) | exact near_dn h0 h1 (by assumption) (by assumption))
example : True := by
  k_with "call ref" => (k_here; (with_reducible show wpAny _ _ (call (Value.ref 147) _) _ _ _); k_dflt (refine' c_near ?kB ?kF ?kX ?kN ?kT ?kk ?kd ?ku ?kh0 ?kh1 ?kh2 ?_; (case kB => k_asm); (case kF => k_asm); (case kX => k_asm); (case kN => k_asm); (case kT => k_asm); (case kk => first | exact rfl | assumption); (case kd => ktr_room); (case ku => ktr_units); (case kh0 => (first | assumption | omega | l_bnd | (split <;> omega))); (case kh1 => (first | assumption | omega | l_bnd | (split <;> omega))); (case kh2 => (first | assumption | omega | l_bnd | (split <;> omega)))); intro r f9_0 t9 h9 tk9 F9 N9; (try k_sweep); (try dsimp only); (try k_fold))
  trivial
example : True := by
  k_with "binaryOp Mult int int" => (k_here; k_dflt (refine mul_int ?_ (mulOk_left (sign_natAbs _))))
  trivial

theorem c_sr {p n e : Int} {t t2 t3 : Tok} (hdp : dp + 9 < recursionLimit) (hu : un + 72 < cLine)
    (hp : Prec p)
    (hb : Big n)
    (he1 : -20000 ≤ e)
    (he2 : e ≤ 20000)
    (hret : ∀ (n' : Int) (e' : Int),  (SR p n e n' e') → ∀ x d t1 t2 t3 t4 h' tk', Fr h₀ L h' m → News h₀ L h' ((x, instObj 108 d) :: (d, dictOf (rdict w (n') (e') t1 t2 t3 t4) 2) :: news) → (∀ p ∈ news, p.1 < d) → d < x → Q (.ref x) { s with heap := h', toks := tk' }) :
    wpAny (model PySem.Challenge.rw_pq1014_01.row.prog w) (ktrTop dp un gd cn cs L a ccd cl outer) (call (.ref 154) [.int p t, .int n t2, .int e t3]) Q E s := by
  obtain ⟨hs1, hs2⟩ := hb.sz
  obtain ⟨hp1, hp2⟩ := id hp
  refine wpAny_call ?_
  k_dflt ktr_enter
  k_steps
  all_goals (
      refine' hret _ _ ?sp0 _ _ _ _ _ _ _ _ ?kf ?kn ?kl ?km
      case kf => k_asm
      case kn => first | k_asm | (refine' news_pick ?ka ?kb ?kc ?kd; (case ka => k_asm); (case kb => k_mem); (case kc => k_mem); (case kd => (intro p9 h9; (repeat (first | exact h9 | refine List.mem_cons_of_mem _ ?_)); done)))
      case kl => first | k_asm | (refine' low_pick ?ka ?kb; (case ka => k_asm); (case kb => (intro p9 h9; (repeat (first | exact h9 | refine List.mem_cons_of_mem _ ?_)); done)))
      case km => k_asm
      case sp0 => first | exact sr_exact hp (by assumption) (by assumption) | exact sr_near hp (by assumption) (by assumption) (by assumption))
example : True := by
  k_with "call ref" => (k_here; (with_reducible show wpAny _ _ (call (Value.ref 154) _) _ _ _); k_dflt (refine' c_sr ?kB ?kF ?kX ?kN ?kT ?kk ?kd ?ku ?khp ?khb ?khe1 ?khe2 ?_; (case kB => k_asm); (case kF => k_asm); (case kX => k_asm); (case kN => k_asm); (case kT => k_asm); (case kk => first | exact rfl | assumption); (case kd => ktr_room); (case ku => ktr_units); (case khp => (first | assumption | omega | exact big_lt (by omega) (by omega) | exact big_mul (by assumption) (by assumption) | exact big_far2 (by assumption) (by assumption) (by assumption) | exact big_total (by assumption) (by assumption) (by assumption) (by omega) (by assumption) (by assumption) (by assumption) | l_bnd)); (case khb => (first | assumption | omega | exact big_lt (by omega) (by omega) | exact big_mul (by assumption) (by assumption) | exact big_far2 (by assumption) (by assumption) (by assumption) | exact big_total (by assumption) (by assumption) (by assumption) (by omega) (by assumption) (by assumption) (by assumption) | l_bnd)); (case khe1 => (first | assumption | omega | exact big_lt (by omega) (by omega) | exact big_mul (by assumption) (by assumption) | exact big_far2 (by assumption) (by assumption) (by assumption) | exact big_total (by assumption) (by assumption) (by assumption) (by omega) (by assumption) (by assumption) (by assumption) | l_bnd)); (case khe2 => (first | assumption | omega | exact big_lt (by omega) (by omega) | exact big_mul (by assumption) (by assumption) | exact big_far2 (by assumption) (by assumption) (by assumption) | exact big_total (by assumption) (by assumption) (by assumption) (by omega) (by assumption) (by assumption) (by assumption) | l_bnd))); intro n' e' f9_0 x9 d9 ta9 tb9 tc9 td9 h9 tk9 F9 N9 l9 l8; (have l7 := l9); (try k_lt l7); (try k_lt2 l8); (try k_sweep); (try dsimp only); (try k_fold))
  trivial

theorem c_sticky {n : Int} {b : Bool} {t : Tok} (hdp : dp + 2 < recursionLimit) (hu : un + 16 < cLine)
    (hret :  ∀ t h' tk', Fr h₀ L h' m → News h₀ L h' news → Q (.int (2 * n + (if b = true then 1 else 0)) t) { s with heap := h', toks := tk' }) :
    wpAny (model PySem.Challenge.rw_pq1014_01.row.prog w) (ktrTop dp un gd cn cs L a ccd cl outer) (call (.ref 161) [.int n t, .bool b]) Q E s := by
  refine wpAny_call ?_
  k_dflt ktr_enter
  k_steps
  all_goals (
      (rename (b = _) => hb9); subst hb9
      refine' hret   _ _ _ ?kf ?kn
      case kf => k_asm
      case kn => first | k_asm | (refine' cb_drop ?ka ?kb; (case ka => k_asm); (case kb => (intro p9 h9; (repeat (first | exact h9 | refine List.mem_cons_of_mem _ ?_)); done))))
example : True := by
  k_with "call ref" => (k_here; (with_reducible show wpAny _ _ (call (Value.ref 161) _) _ _ _); k_dflt (refine' c_sticky ?kB ?kF ?kX ?kN ?kT ?kk ?kd ?ku ?_; (case kB => k_asm); (case kF => k_asm); (case kX => k_asm); (case kN => k_asm); (case kT => k_asm); (case kk => first | exact rfl | assumption); (case kd => ktr_room); (case ku => ktr_units)); intro   t9 h9 tk9 F9 N9; (try k_sweep); (try dsimp only); (try k_fold))
  trivial

theorem c_place {x1 d1 : Addr} {m1 e1 : Int} {u11 u12 u13 u14 : Tok} (hdp : dp + 5 < recursionLimit) (hu : un + 40 < cLine)
    (hx1 : (x1, instObj 108 d1) ∈ news) (hd1 : (d1, dictOf (rdict w m1 e1 u11 u12 u13 u14) 2) ∈ news)
    (hret :  ∀ t h' tk', Fr h₀ L h' m → News h₀ L h' news → Q (.int (sz m1 + e1) t) { s with heap := h', toks := tk' }) :
    wpAny (model PySem.Challenge.rw_pq1014_01.row.prog w) (ktrTop dp un gd cn cs L a ccd cl outer) (call (.ref 175) [.ref x1]) Q E s := by
  refine wpAny_call ?_
  k_dflt ktr_enter
  k_steps
  all_goals (
      refine' hret   _ _ _ ?kf ?kn
      case kf => k_asm
      case kn => first | k_asm | (refine' cb_drop ?ka ?kb; (case ka => k_asm); (case kb => (intro p9 h9; (repeat (first | exact h9 | refine List.mem_cons_of_mem _ ?_)); done))))
example : True := by
  k_with "call ref" => (k_here; (with_reducible show wpAny _ _ (call (Value.ref 175) _) _ _ _); k_dflt (refine' c_place ?kB ?kF ?kX ?kN ?kT ?kk ?kd ?ku ?khx1 ?khd1 ?_; (case kB => k_asm); (case kF => k_asm); (case kX => k_asm); (case kN => k_asm); (case kT => k_asm); (case kk => first | exact rfl | assumption); (case kd => ktr_room); (case ku => ktr_units); (case khx1 => k_mem); (case khd1 => k_mem)); intro   t9 h9 tk9 F9 N9; (try k_sweep); (try dsimp only); (try k_fold))
  trivial

theorem c_sign {x1 d1 : Addr} {m1 e1 : Int} {u11 u12 u13 u14 : Tok} (hdp : dp + 5 < recursionLimit) (hu : un + 40 < cLine)
    (hx1 : (x1, instObj 108 d1) ∈ news) (hd1 : (d1, dictOf (rdict w m1 e1 u11 u12 u13 u14) 2) ∈ news)
    (hret :  ∀ t h' tk', Fr h₀ L h' m → News h₀ L h' news → Q (.int (Int.sign m1) t) { s with heap := h', toks := tk' }) :
    wpAny (model PySem.Challenge.rw_pq1014_01.row.prog w) (ktrTop dp un gd cn cs L a ccd cl outer) (call (.ref 182) [.ref x1]) Q E s := by
  refine wpAny_call ?_
  k_dflt ktr_enter
  k_steps
  all_goals (
      refine' hret   _ _ _ ?kf ?kn
      case kf => k_asm
      case kn => first | k_asm | (refine' cb_drop ?ka ?kb; (case ka => k_asm); (case kb => (intro p9 h9; (repeat (first | exact h9 | refine List.mem_cons_of_mem _ ?_)); done))))
example : True := by
  k_with "call ref" => (k_here; (with_reducible show wpAny _ _ (call (Value.ref 182) _) _ _ _); k_dflt (refine' c_sign ?kB ?kF ?kX ?kN ?kT ?kk ?kd ?ku ?khx1 ?khd1 ?_; (case kB => k_asm); (case kF => k_asm); (case kX => k_asm); (case kN => k_asm); (case kT => k_asm); (case kk => first | exact rfl | assumption); (case kd => ktr_room); (case ku => ktr_units); (case khx1 => k_mem); (case khd1 => k_mem)); intro   t9 h9 tk9 F9 N9; (try k_sweep); (try dsimp only); (try k_fold))
  trivial

theorem c_neg {x1 d1 : Addr} {m1 e1 : Int} {u11 u12 u13 u14 : Tok} (hdp : dp + 5 < recursionLimit) (hu : un + 40 < cLine)
    (hx1 : (x1, instObj 108 d1) ∈ news) (hd1 : (d1, dictOf (rdict w m1 e1 u11 u12 u13 u14) 2) ∈ news)
    (hret :  ∀ x d t1 t2 t3 t4 h' tk', Fr h₀ L h' m → News h₀ L h' ((x, instObj 108 d) :: (d, dictOf (rdict w (0 - m1) (e1) t1 t2 t3 t4) 2) :: news) → (∀ p ∈ news, p.1 < d) → d < x → Q (.ref x) { s with heap := h', toks := tk' }) :
    wpAny (model PySem.Challenge.rw_pq1014_01.row.prog w) (ktrTop dp un gd cn cs L a ccd cl outer) (call (.ref 189) [.ref x1]) Q E s := by
  refine wpAny_call ?_
  k_dflt ktr_enter
  k_steps
  all_goals (
      refine' hret   _ _ _ _ _ _ _ _ ?kf ?kn ?kl ?km
      case kf => k_asm
      case kn => first | k_asm | (refine' news_pick ?ka ?kb ?kc ?kd; (case ka => k_asm); (case kb => k_mem); (case kc => k_mem); (case kd => (intro p9 h9; (repeat (first | exact h9 | refine List.mem_cons_of_mem _ ?_)); done)))
      case kl => first | k_asm | (refine' low_pick ?ka ?kb; (case ka => k_asm); (case kb => (intro p9 h9; (repeat (first | exact h9 | refine List.mem_cons_of_mem _ ?_)); done)))
      case km => k_asm)
example : True := by
  k_with "call ref" => (k_here; (with_reducible show wpAny _ _ (call (Value.ref 189) _) _ _ _); k_dflt (refine' c_neg ?kB ?kF ?kX ?kN ?kT ?kk ?kd ?ku ?khx1 ?khd1 ?_; (case kB => k_asm); (case kF => k_asm); (case kX => k_asm); (case kN => k_asm); (case kT => k_asm); (case kk => first | exact rfl | assumption); (case kd => ktr_room); (case ku => ktr_units); (case khx1 => k_mem); (case khd1 => k_mem)); intro   x9 d9 ta9 tb9 tc9 td9 h9 tk9 F9 N9 l9 l8; (have l7 := l9); (try k_lt l7); (try k_lt2 l8); (try k_sweep); (try dsimp only); (try k_fold))
  trivial

theorem c_mag {x1 d1 : Addr} {m1 e1 : Int} {u11 u12 u13 u14 : Tok} (hdp : dp + 5 < recursionLimit) (hu : un + 40 < cLine)
    (hx1 : (x1, instObj 108 d1) ∈ news) (hd1 : (d1, dictOf (rdict w m1 e1 u11 u12 u13 u14) 2) ∈ news)
    (hret :  ∀ x d t1 t2 t3 t4 h' tk', Fr h₀ L h' m → News h₀ L h' ((x, instObj 108 d) :: (d, dictOf (rdict w (if m1 < 0 then -m1 else m1) (e1) t1 t2 t3 t4) 2) :: news) → (∀ p ∈ news, p.1 < d) → d < x → Q (.ref x) { s with heap := h', toks := tk' }) :
    wpAny (model PySem.Challenge.rw_pq1014_01.row.prog w) (ktrTop dp un gd cn cs L a ccd cl outer) (call (.ref 196) [.ref x1]) Q E s := by
  refine wpAny_call ?_
  k_dflt ktr_enter
  k_steps
  all_goals (
      refine' hret   _ _ _ _ _ _ _ _ ?kf ?kn ?kl ?km
      case kf => k_asm
      case kn => first | k_asm | (refine' news_pick ?ka ?kb ?kc ?kd; (case ka => k_asm); (case kb => k_mem); (case kc => k_mem); (case kd => (intro p9 h9; (repeat (first | exact h9 | refine List.mem_cons_of_mem _ ?_)); done)))
      case kl => first | k_asm | (refine' low_pick ?ka ?kb; (case ka => k_asm); (case kb => (intro p9 h9; (repeat (first | exact h9 | refine List.mem_cons_of_mem _ ?_)); done)))
      case km => k_asm)
example : True := by
  k_with "call ref" => (k_here; (with_reducible show wpAny _ _ (call (Value.ref 196) _) _ _ _); k_dflt (refine' c_mag ?kB ?kF ?kX ?kN ?kT ?kk ?kd ?ku ?khx1 ?khd1 ?_; (case kB => k_asm); (case kF => k_asm); (case kX => k_asm); (case kN => k_asm); (case kT => k_asm); (case kk => first | exact rfl | assumption); (case kd => ktr_room); (case ku => ktr_units); (case khx1 => k_mem); (case khd1 => k_mem)); intro   x9 d9 ta9 tb9 tc9 td9 h9 tk9 F9 N9 l9 l8; (have l7 := l9); (try k_lt l7); (try k_lt2 l8); (try k_sweep); (try dsimp only); (try k_fold))
  trivial

theorem c_cmpmag {x1 d1 : Addr} {m1 e1 : Int} {u11 u12 u13 u14 : Tok} {x2 d2 : Addr} {m2 e2 : Int} {u21 u22 u23 u24 : Tok} (hdp : dp + 8 < recursionLimit) (hu : un + 64 < cLine)
    (hx1 : (x1, instObj 108 d1) ∈ news) (hd1 : (d1, dictOf (rdict w m1 e1 u11 u12 u13 u14) 2) ∈ news)
    (hx2 : (x2, instObj 108 d2) ∈ news) (hd2 : (d2, dictOf (rdict w m2 e2 u21 u22 u23 u24) 2) ∈ news)
    (hz1 : 0 < m1)
    (hz2 : 0 < m2)
    (hs1 : m1 < 8192)
    (hs2 : m2 < 8192)
    (ha1 : -300 ≤ e1)
    (ha2 : -300 ≤ e2)
    (hb1 : e1 ≤ 600)
    (hb2 : e2 ≤ 600)
    (hret :  ∀ t h' tk', Fr h₀ L h' m → News h₀ L h' news → Q (.int (Int.sign (rv m1 e1 - rv m2 e2)) t) { s with heap := h', toks := tk' }) :
    wpAny (model PySem.Challenge.rw_pq1014_01.row.prog w) (ktrTop dp un gd cn cs L a ccd cl outer) (call (.ref 203) [.ref x1, .ref x2]) Q E s := by
  refine wpAny_call ?_
  k_dflt ktr_enter
  k_steps
  all_goals (
      refine' cb_retI hret ?e ?kf ?kn
      case kf => k_asm
      case kn => first | k_asm | (refine' cb_drop ?ka ?kb; (case ka => k_asm); (case kb => (intro p9 h9; (repeat (first | exact h9 | refine List.mem_cons_of_mem _ ?_)); done)))
      case e => first | exact cmp_gt hz1 hz2 ha1 ha2 (by assumption) | exact cmp_lt hz1 hz2 ha1 ha2 (by assumption) (by assumption) | exact cmp_eq ha1 ha2 (by assumption) (by assumption) (by assumption))
example : True := by
  k_with "call ref" => (k_here; (with_reducible show wpAny _ _ (call (Value.ref 203) _) _ _ _); k_dflt (refine' c_cmpmag ?kB ?kF ?kX ?kN ?kT ?kk ?kd ?ku ?khx1 ?khd1 ?khx2 ?khd2 ?khz1 ?khz2 ?khs1 ?khs2 ?kha1 ?kha2 ?khb1 ?khb2 ?_; (case kB => k_asm); (case kF => k_asm); (case kX => k_asm); (case kN => k_asm); (case kT => k_asm); (case kk => first | exact rfl | assumption); (case kd => ktr_room); (case ku => ktr_units); (case khx1 => k_mem); (case khd1 => k_mem); (case khx2 => k_mem); (case khd2 => k_mem); (case khz1 => (first | assumption | omega | exact abs_pos (by assumption) | exact abs_pos2 (by assumption) (by assumption) | exact abs_small (by assumption))); (case khz2 => (first | assumption | omega | exact abs_pos (by assumption) | exact abs_pos2 (by assumption) (by assumption) | exact abs_small (by assumption))); (case khs1 => (first | assumption | omega | exact abs_pos (by assumption) | exact abs_pos2 (by assumption) (by assumption) | exact abs_small (by assumption))); (case khs2 => (first | assumption | omega | exact abs_pos (by assumption) | exact abs_pos2 (by assumption) (by assumption) | exact abs_small (by assumption))); (case kha1 => (first | assumption | omega | exact abs_pos (by assumption) | exact abs_pos2 (by assumption) (by assumption) | exact abs_small (by assumption))); (case kha2 => (first | assumption | omega | exact abs_pos (by assumption) | exact abs_pos2 (by assumption) (by assumption) | exact abs_small (by assumption))); (case khb1 => (first | assumption | omega | exact abs_pos (by assumption) | exact abs_pos2 (by assumption) (by assumption) | exact abs_small (by assumption))); (case khb2 => (first | assumption | omega | exact abs_pos (by assumption) | exact abs_pos2 (by assumption) (by assumption) | exact abs_small (by assumption)))); intro   t9 h9 tk9 F9 N9; (try k_sweep); (try dsimp only); (try k_fold))
  trivial

theorem c_far {p : Int} {l1 v1 l2 v2 : Nat} {x1 d1 : Addr} {m1 e1 : Int} {u11 u12 u13 u14 : Tok} {x2 d2 : Addr} {m2 e2 : Int} {u21 u22 u23 u24 : Tok} {t : Tok} (hdp : dp + 14 < recursionLimit) (hu : un + 112 < cLine)
    (hx1 : (x1, instObj 108 d1) ∈ news) (hd1 : (d1, dictOf (rdict w m1 e1 u11 u12 u13 u14) 2) ∈ news)
    (hx2 : (x2, instObj 108 d2) ∈ news) (hd2 : (d2, dictOf (rdict w m2 e2 u21 u22 u23 u24) 2) ∈ news)
    (hp : Prec p)
    (hn1 : Num p l1 v1 m1 e1)
    (hn2 : Num p l2 v2 m2 e2)
    (hl1 : l1 ≤ 300)
    (hl2 : l2 ≤ 300)
    (hv1 : v1 ≤ 600)
    (hv2 : v2 ≤ 600)
    (hret : ∀ (n' : Int) (e' : Int),  (SR p (2 * (m1 * 2 ^ (p + 3 - sz m1).toNat) + Int.sign m2) (e1 - (p + 3 - sz m1) - 1) n' e') → ∀ x d t1 t2 t3 t4 h' tk', Fr h₀ L h' m → News h₀ L h' ((x, instObj 108 d) :: (d, dictOf (rdict w (n') (e') t1 t2 t3 t4) 2) :: news) → (∀ p ∈ news, p.1 < d) → d < x → Q (.ref x) { s with heap := h', toks := tk' }) :
    wpAny (model PySem.Challenge.rw_pq1014_01.row.prog w) (ktrTop dp un gd cn cs L a ccd cl outer) (call (.ref 217) [.int p t, .ref x1, .ref x2]) Q E s := by
  obtain ⟨hp1, hp2⟩ := id hp
  have hs1 := hn1.small hp
  have hs2 := hn2.small hp
  have hlo1 := hn1.lo
  have hlo2 := hn2.lo
  have hhi1 := hn1.hi
  have hhi2 := hn2.hi
  have hz1 := hn1.size hp
  have hfar := big_far m2 hp hs1 hz1.1
  refine wpAny_call ?_
  k_dflt ktr_enter
  k_steps
  all_goals (
      refine' hret _ _ ?sp0 _ _ _ _ _ _ _ _ ?kf ?kn ?kl ?km
      case kf => k_asm
      case kn => first | k_asm | (refine' news_pick ?ka ?kb ?kc ?kd; (case ka => k_asm); (case kb => k_mem); (case kc => k_mem); (case kd => (intro p9 h9; (repeat (first | exact h9 | refine List.mem_cons_of_mem _ ?_)); done)))
      case kl => first | k_asm | (refine' low_pick ?ka ?kb; (case ka => k_asm); (case kb => (intro p9 h9; (repeat (first | exact h9 | refine List.mem_cons_of_mem _ ?_)); done)))
      case km => k_asm
      case sp0 => exact far_end hz1.1 hz1.2 (by assumption) (by assumption) (by assumption))
example : True := by
  k_with "call ref" => (k_here; (with_reducible show wpAny _ _ (call (Value.ref 217) _) _ _ _); k_dflt (refine' c_far ?kB ?kF ?kX ?kN ?kT ?kk ?kd ?ku ?khx1 ?khd1 ?khx2 ?khd2 ?khp ?khn1 ?khn2 ?khl1 ?khl2 ?khv1 ?khv2 ?_; (case kB => k_asm); (case kF => k_asm); (case kX => k_asm); (case kN => k_asm); (case kT => k_asm); (case kk => first | exact rfl | assumption); (case kd => ktr_room); (case ku => ktr_units); (case khx1 => k_mem); (case khd1 => k_mem); (case khx2 => k_mem); (case khd2 => k_mem); (case khp => (first | assumption | omega | exact Num.neg (by assumption) | l_bnd)); (case khn1 => (first | assumption | omega | exact Num.neg (by assumption) | l_bnd)); (case khn2 => (first | assumption | omega | exact Num.neg (by assumption) | l_bnd)); (case khl1 => (first | assumption | omega | exact Num.neg (by assumption) | l_bnd)); (case khl2 => (first | assumption | omega | exact Num.neg (by assumption) | l_bnd)); (case khv1 => (first | assumption | omega | exact Num.neg (by assumption) | l_bnd)); (case khv2 => (first | assumption | omega | exact Num.neg (by assumption) | l_bnd))); intro n' e' f9_0 x9 d9 ta9 tb9 tc9 td9 h9 tk9 F9 N9 l9 l8; (have l7 := l9); (try k_lt l7); (try k_lt2 l8); (try k_sweep); (try dsimp only); (try k_fold))
  trivial

theorem c_mul {p : Int} {l1 v1 l2 v2 : Nat} {x1 d1 : Addr} {m1 e1 : Int} {u11 u12 u13 u14 : Tok} {x2 d2 : Addr} {m2 e2 : Int} {u21 u22 u23 u24 : Tok} {t : Tok} (hdp : dp + 12 < recursionLimit) (hu : un + 96 < cLine)
    (hx1 : (x1, instObj 108 d1) ∈ news) (hd1 : (d1, dictOf (rdict w m1 e1 u11 u12 u13 u14) 2) ∈ news)
    (hx2 : (x2, instObj 108 d2) ∈ news) (hd2 : (d2, dictOf (rdict w m2 e2 u21 u22 u23 u24) 2) ∈ news)
    (hp : Prec p)
    (hn1 : Num p l1 v1 m1 e1)
    (hn2 : Num p l2 v2 m2 e2)
    (hl1 : l1 ≤ 300)
    (hl2 : l2 ≤ 300)
    (hv1 : v1 ≤ 600)
    (hv2 : v2 ≤ 600)
    (hret : ∀ (n' : Int) (e' : Int),  (MulOk p l1 v1 m1 e1 l2 v2 m2 e2 n' e') → ∀ x d t1 t2 t3 t4 h' tk', Fr h₀ L h' m → News h₀ L h' ((x, instObj 108 d) :: (d, dictOf (rdict w (n') (e') t1 t2 t3 t4) 2) :: news) → (∀ p ∈ news, p.1 < d) → d < x → Q (.ref x) { s with heap := h', toks := tk' }) :
    wpAny (model PySem.Challenge.rw_pq1014_01.row.prog w) (ktrTop dp un gd cn cs L a ccd cl outer) (call (.ref 238) [.int p t, .ref x1, .ref x2]) Q E s := by
  obtain ⟨hp1, hp2⟩ := id hp
  have hs1 := hn1.small hp
  have hs2 := hn2.small hp
  have hlo1 := hn1.lo
  have hlo2 := hn2.lo
  have hhi1 := hn1.hi
  have hhi2 := hn2.hi
  refine wpAny_call ?_
  k_dflt ktr_enter
  k_steps
  all_goals (
      refine' hret _ _ ?sp0 _ _ _ _ _ _ _ _ ?kf ?kn ?kl ?km
      case kf => k_asm
      case kn => first | k_asm | (refine' news_pick ?ka ?kb ?kc ?kd; (case ka => k_asm); (case kb => k_mem); (case kc => k_mem); (case kd => (intro p9 h9; (repeat (first | exact h9 | refine List.mem_cons_of_mem _ ?_)); done)))
      case kl => first | k_asm | (refine' low_pick ?ka ?kb; (case ka => k_asm); (case kb => (intro p9 h9; (repeat (first | exact h9 | refine List.mem_cons_of_mem _ ?_)); done)))
      case km => k_asm
      case sp0 => exact mul_end hp hn1 hn2 hl1 hl2 hv1 hv2 (by assumption))
example : True := by
  k_with "call ref" => (k_here; (with_reducible show wpAny _ _ (call (Value.ref 238) _) _ _ _); k_dflt (refine' c_mul ?kB ?kF ?kX ?kN ?kT ?kk ?kd ?ku ?khx1 ?khd1 ?khx2 ?khd2 ?khp ?khn1 ?khn2 ?khl1 ?khl2 ?khv1 ?khv2 ?_; (case kB => k_asm); (case kF => k_asm); (case kX => k_asm); (case kN => k_asm); (case kT => k_asm); (case kk => first | exact rfl | assumption); (case kd => ktr_room); (case ku => ktr_units); (case khx1 => k_mem); (case khd1 => k_mem); (case khx2 => k_mem); (case khd2 => k_mem); (case khp => (first | assumption | omega | exact Num.neg (by assumption) | l_bnd)); (case khn1 => (first | assumption | omega | exact Num.neg (by assumption) | l_bnd)); (case khn2 => (first | assumption | omega | exact Num.neg (by assumption) | l_bnd)); (case khl1 => (first | assumption | omega | exact Num.neg (by assumption) | l_bnd)); (case khl2 => (first | assumption | omega | exact Num.neg (by assumption) | l_bnd)); (case khv1 => (first | assumption | omega | exact Num.neg (by assumption) | l_bnd)); (case khv2 => (first | assumption | omega | exact Num.neg (by assumption) | l_bnd))); intro n' e' f9_0 x9 d9 ta9 tb9 tc9 td9 h9 tk9 F9 N9 l9 l8; (have l7 := l9); (try k_lt l7); (try k_lt2 l8); (have g9n := f9_0.num); (have g9e := f9_0.bde); (have g9m := f9_0.bdm); (try k_sweep); (try dsimp only); (try k_fold))
  trivial

theorem c_cmp {p : Int} {l1 v1 l2 v2 : Nat} {x1 d1 : Addr} {m1 e1 : Int} {u11 u12 u13 u14 : Tok} {x2 d2 : Addr} {m2 e2 : Int} {u21 u22 u23 u24 : Tok} (hdp : dp + 12 < recursionLimit) (hu : un + 96 < cLine)
    (hx1 : (x1, instObj 108 d1) ∈ news) (hd1 : (d1, dictOf (rdict w m1 e1 u11 u12 u13 u14) 2) ∈ news)
    (hx2 : (x2, instObj 108 d2) ∈ news) (hd2 : (d2, dictOf (rdict w m2 e2 u21 u22 u23 u24) 2) ∈ news)
    (hp : Prec p)
    (hn1 : Num p l1 v1 m1 e1)
    (hn2 : Num p l2 v2 m2 e2)
    (hl1 : l1 ≤ 300)
    (hl2 : l2 ≤ 300)
    (hv1 : v1 ≤ 600)
    (hv2 : v2 ≤ 600)
    (hret :  ∀ t h' tk', Fr h₀ L h' m → News h₀ L h' news → Q (.int (Int.sign (rv m1 e1 - rv m2 e2)) t) { s with heap := h', toks := tk' }) :
    wpAny (model PySem.Challenge.rw_pq1014_01.row.prog w) (ktrTop dp un gd cn cs L a ccd cl outer) (call (.ref 210) [.ref x1, .ref x2]) Q E s := by
  obtain ⟨hp1, hp2⟩ := id hp
  have hs1 := hn1.small hp
  have hs2 := hn2.small hp
  have hlo1 := hn1.lo
  have hlo2 := hn2.lo
  have hhi1 := hn1.hi
  have hhi2 := hn2.hi
  refine wpAny_call ?_
  k_dflt ktr_enter
  k_steps
  all_goals (
      refine' cb_retI hret ?e ?kf ?kn
      case kf => k_asm
      case kn => first | k_asm | (refine' cb_drop ?ka ?kb; (case ka => k_asm); (case kb => (intro p9 h9; (repeat (first | exact h9 | refine List.mem_cons_of_mem _ ?_)); done)))
      case e => first | exact cmp_s1 (by assumption) (by assumption) | exact cmp_s2 (by assumption) (by assumption) | exact cmp_s3 (by assumption) (by assumption) | exact cmp_s4 (by assumption) (by assumption))
example : True := by
  k_with "call ref" => (k_here; (with_reducible show wpAny _ _ (call (Value.ref 210) _) _ _ _); k_dflt (refine' c_cmp ?kB ?kF ?kX ?kN ?kT ?kk ?kd ?ku ?khx1 ?khd1 ?khx2 ?khd2 ?khp ?khn1 ?khn2 ?khl1 ?khl2 ?khv1 ?khv2 ?_; (case kB => k_asm); (case kF => k_asm); (case kX => k_asm); (case kN => k_asm); (case kT => k_asm); (case kk => first | exact rfl | assumption); (case kd => ktr_room); (case ku => ktr_units); (case khx1 => k_mem); (case khd1 => k_mem); (case khx2 => k_mem); (case khd2 => k_mem); (case khp => (first | assumption | omega | exact Num.neg (by assumption) | l_bnd)); (case khn1 => (first | assumption | omega | exact Num.neg (by assumption) | l_bnd)); (case khn2 => (first | assumption | omega | exact Num.neg (by assumption) | l_bnd)); (case khl1 => (first | assumption | omega | exact Num.neg (by assumption) | l_bnd)); (case khl2 => (first | assumption | omega | exact Num.neg (by assumption) | l_bnd)); (case khv1 => (first | assumption | omega | exact Num.neg (by assumption) | l_bnd)); (case khv2 => (first | assumption | omega | exact Num.neg (by assumption) | l_bnd))); intro   t9 h9 tk9 F9 N9; (try k_sweep); (try dsimp only); (try k_fold))
  trivial

theorem c_add {p : Int} {l1 v1 l2 v2 : Nat} {x1 d1 : Addr} {m1 e1 : Int} {u11 u12 u13 u14 : Tok} {x2 d2 : Addr} {m2 e2 : Int} {u21 u22 u23 u24 : Tok} {t : Tok} (hdp : dp + 18 < recursionLimit) (hu : un + 144 < cLine)
    (hx1 : (x1, instObj 108 d1) ∈ news) (hd1 : (d1, dictOf (rdict w m1 e1 u11 u12 u13 u14) 2) ∈ news)
    (hx2 : (x2, instObj 108 d2) ∈ news) (hd2 : (d2, dictOf (rdict w m2 e2 u21 u22 u23 u24) 2) ∈ news)
    (hp : Prec p)
    (hn1 : Num p l1 v1 m1 e1)
    (hn2 : Num p l2 v2 m2 e2)
    (hl1 : l1 ≤ 300)
    (hl2 : l2 ≤ 300)
    (hv1 : v1 ≤ 600)
    (hv2 : v2 ≤ 600)
    (hret : ∀ (n' : Int) (e' : Int),  (AddOk p l1 v1 m1 e1 l2 v2 m2 e2 n' e') → ∀ x d t1 t2 t3 t4 h' tk', Fr h₀ L h' m → News h₀ L h' ((x, instObj 108 d) :: (d, dictOf (rdict w (n') (e') t1 t2 t3 t4) 2) :: news) → (∀ p ∈ news, p.1 < d) → d < x → Q (.ref x) { s with heap := h', toks := tk' }) :
    wpAny (model PySem.Challenge.rw_pq1014_01.row.prog w) (ktrTop dp un gd cn cs L a ccd cl outer) (call (.ref 224) [.int p t, .ref x1, .ref x2]) Q E s := by
  obtain ⟨hp1, hp2⟩ := id hp
  have hs1 := hn1.small hp
  have hs2 := hn2.small hp
  have hlo1 := hn1.lo
  have hlo2 := hn2.lo
  have hhi1 := hn1.hi
  have hhi2 := hn2.hi
  refine wpAny_call ?_
  k_dflt ktr_enter
  k_steps
  all_goals (
      refine' hret _ _ ?sp0 _ _ _ _ _ _ _ _ ?kf ?kn ?kl ?km
      case kf => k_asm
      case kn => first | k_asm | (refine' news_pick ?ka ?kb ?kc ?kd; (case ka => k_asm); (case kb => k_mem); (case kc => k_mem); (case kd => (intro p9 h9; (repeat (first | exact h9 | refine List.mem_cons_of_mem _ ?_)); done)))
      case kl => first | k_asm | (refine' low_pick ?ka ?kb; (case ka => k_asm); (case kb => (intro p9 h9; (repeat (first | exact h9 | refine List.mem_cons_of_mem _ ?_)); done)))
      case km => k_asm
      case sp0 => first | exact add_zero1 hp hn1 hn2 hl1 hl2 hv1 hv2 (by with_reducible assumption) (by with_reducible assumption) | exact add_zero2 hp hn1 hn2 hl1 hl2 hv1 hv2 (by with_reducible assumption) (by with_reducible assumption) | exact add_far1 hp hn1 hn2 hl1 hl2 hv1 hv2 (by with_reducible assumption) (by with_reducible assumption) (by omega) (by with_reducible assumption) (by with_reducible assumption) (by with_reducible assumption) (by with_reducible assumption) | exact add_far2 hp hn1 hn2 hl1 hl2 hv1 hv2 (by with_reducible assumption) (by with_reducible assumption) (by omega) (by with_reducible assumption) (by with_reducible assumption) (by with_reducible assumption) (by with_reducible assumption) | exact add_near1 hp hn1 hn2 hl1 hl2 hv1 hv2 (by with_reducible assumption) (by with_reducible assumption) (by omega) (by with_reducible assumption) (by with_reducible assumption) (by with_reducible assumption) (by with_reducible assumption) (by with_reducible assumption) (by with_reducible assumption) | exact add_near2 hp hn1 hn2 hl1 hl2 hv1 hv2 (by with_reducible assumption) (by with_reducible assumption) (by omega) (by with_reducible assumption) (by with_reducible assumption) (by with_reducible assumption) (by with_reducible assumption) (by with_reducible assumption) (by with_reducible assumption))
example : True := by
  k_with "call ref" => (k_here; (with_reducible show wpAny _ _ (call (Value.ref 224) _) _ _ _); k_dflt (refine' c_add ?kB ?kF ?kX ?kN ?kT ?kk ?kd ?ku ?khx1 ?khd1 ?khx2 ?khd2 ?khp ?khn1 ?khn2 ?khl1 ?khl2 ?khv1 ?khv2 ?_; (case kB => k_asm); (case kF => k_asm); (case kX => k_asm); (case kN => k_asm); (case kT => k_asm); (case kk => first | exact rfl | assumption); (case kd => ktr_room); (case ku => ktr_units); (case khx1 => k_mem); (case khd1 => k_mem); (case khx2 => k_mem); (case khd2 => k_mem); (case khp => (first | assumption | omega | exact Num.neg (by assumption) | l_bnd)); (case khn1 => (first | assumption | omega | exact Num.neg (by assumption) | l_bnd)); (case khn2 => (first | assumption | omega | exact Num.neg (by assumption) | l_bnd)); (case khl1 => (first | assumption | omega | exact Num.neg (by assumption) | l_bnd)); (case khl2 => (first | assumption | omega | exact Num.neg (by assumption) | l_bnd)); (case khv1 => (first | assumption | omega | exact Num.neg (by assumption) | l_bnd)); (case khv2 => (first | assumption | omega | exact Num.neg (by assumption) | l_bnd))); intro n' e' f9_0 x9 d9 ta9 tb9 tc9 td9 h9 tk9 F9 N9 l9 l8; (have l7 := l9); (try k_lt l7); (try k_lt2 l8); (have g9n := f9_0.num); (have g9e := f9_0.bde); (have g9m := f9_0.bdm); (try k_sweep); (try dsimp only); (try k_fold))
  trivial

theorem c_sub {p : Int} {l1 v1 l2 v2 : Nat} {x1 d1 : Addr} {m1 e1 : Int} {u11 u12 u13 u14 : Tok} {x2 d2 : Addr} {m2 e2 : Int} {u21 u22 u23 u24 : Tok} {t : Tok} (hdp : dp + 21 < recursionLimit) (hu : un + 168 < cLine)
    (hx1 : (x1, instObj 108 d1) ∈ news) (hd1 : (d1, dictOf (rdict w m1 e1 u11 u12 u13 u14) 2) ∈ news)
    (hx2 : (x2, instObj 108 d2) ∈ news) (hd2 : (d2, dictOf (rdict w m2 e2 u21 u22 u23 u24) 2) ∈ news)
    (hp : Prec p)
    (hn1 : Num p l1 v1 m1 e1)
    (hn2 : Num p l2 v2 m2 e2)
    (hl1 : l1 ≤ 300)
    (hl2 : l2 ≤ 300)
    (hv1 : v1 ≤ 600)
    (hv2 : v2 ≤ 600)
    (hret : ∀ (n' : Int) (e' : Int),  (SubOk p l1 v1 m1 e1 l2 v2 m2 e2 n' e') → ∀ x d t1 t2 t3 t4 h' tk', Fr h₀ L h' m → News h₀ L h' ((x, instObj 108 d) :: (d, dictOf (rdict w (n') (e') t1 t2 t3 t4) 2) :: news) → (∀ p ∈ news, p.1 < d) → d < x → Q (.ref x) { s with heap := h', toks := tk' }) :
    wpAny (model PySem.Challenge.rw_pq1014_01.row.prog w) (ktrTop dp un gd cn cs L a ccd cl outer) (call (.ref 231) [.int p t, .ref x1, .ref x2]) Q E s := by
  obtain ⟨hp1, hp2⟩ := id hp
  have hs1 := hn1.small hp
  have hs2 := hn2.small hp
  have hlo1 := hn1.lo
  have hlo2 := hn2.lo
  have hhi1 := hn1.hi
  have hhi2 := hn2.hi
  refine wpAny_call ?_
  k_dflt ktr_enter
  k_steps
  all_goals (
      refine' hret _ _ ?sp0 _ _ _ _ _ _ _ _ ?kf ?kn ?kl ?km
      case kf => k_asm
      case kn => first | k_asm | (refine' news_pick ?ka ?kb ?kc ?kd; (case ka => k_asm); (case kb => k_mem); (case kc => k_mem); (case kd => (intro p9 h9; (repeat (first | exact h9 | refine List.mem_cons_of_mem _ ?_)); done)))
      case kl => first | k_asm | (refine' low_pick ?ka ?kb; (case ka => k_asm); (case kb => (intro p9 h9; (repeat (first | exact h9 | refine List.mem_cons_of_mem _ ?_)); done)))
      case km => k_asm
      case sp0 => exact AddOk.sub (by assumption))
example : True := by
  k_with "call ref" => (k_here; (with_reducible show wpAny _ _ (call (Value.ref 231) _) _ _ _); k_dflt (refine' c_sub ?kB ?kF ?kX ?kN ?kT ?kk ?kd ?ku ?khx1 ?khd1 ?khx2 ?khd2 ?khp ?khn1 ?khn2 ?khl1 ?khl2 ?khv1 ?khv2 ?_; (case kB => k_asm); (case kF => k_asm); (case kX => k_asm); (case kN => k_asm); (case kT => k_asm); (case kk => first | exact rfl | assumption); (case kd => ktr_room); (case ku => ktr_units); (case khx1 => k_mem); (case khd1 => k_mem); (case khx2 => k_mem); (case khd2 => k_mem); (case khp => (first | assumption | omega | exact Num.neg (by assumption) | l_bnd)); (case khn1 => (first | assumption | omega | exact Num.neg (by assumption) | l_bnd)); (case khn2 => (first | assumption | omega | exact Num.neg (by assumption) | l_bnd)); (case khl1 => (first | assumption | omega | exact Num.neg (by assumption) | l_bnd)); (case khl2 => (first | assumption | omega | exact Num.neg (by assumption) | l_bnd)); (case khv1 => (first | assumption | omega | exact Num.neg (by assumption) | l_bnd)); (case khv2 => (first | assumption | omega | exact Num.neg (by assumption) | l_bnd))); intro n' e' f9_0 x9 d9 ta9 tb9 tc9 td9 h9 tk9 F9 N9 l9 l8; (have l7 := l9); (try k_lt l7); (try k_lt2 l8); (have g9n := f9_0.num); (have g9e := f9_0.bde); (have g9m := f9_0.bdm); (try k_sweep); (try dsimp only); (try k_fold))
  trivial

theorem c_rounded {p n b : Int} {t t2 t3 : Tok} (hdp : dp + 14 < recursionLimit) (hu : un + 112 < cLine)
    (hp : Prec p)
    (hs1 : sz n ≤ p)
    (hs2 : 1 ≤ sz b)
    (hs3 : sz b ≤ p)
    (hb0 : 0 < b)
    (hb1 : b < 8192)
    (hn : -8192 < n ∧ n < 8192)
    (hret : ∀ (n' : Int) (e' : Int),  (RDV p n b n' e') → ∀ x d t1 t2 t3 t4 h' tk', Fr h₀ L h' m → News h₀ L h' ((x, instObj 108 d) :: (d, dictOf (rdict w (n') (e') t1 t2 t3 t4) 2) :: news) → (∀ p ∈ news, p.1 < d) → d < x → Q (.ref x) { s with heap := h', toks := tk' }) :
    wpAny (model PySem.Challenge.rw_pq1014_01.row.prog w) (ktrTop dp un gd cn cs L a ccd cl outer) (call (.ref 168) [.int p t, .int n t2, .int b t3]) Q E s := by
  obtain ⟨hp1, hp2⟩ := id hp
  have hz := sz_nonneg n
  have hbig := big_rd hp hs1 hs2 hs3 hn hb0
  have hd0 := abs_natAbs hn
  refine wpAny_call ?_
  k_dflt ktr_enter
  k_steps
  all_goals (
      refine' hret _ _ ?sp0 _ _ _ _ _ _ _ _ ?kf ?kn ?kl ?km
      case kf => k_asm
      case kn => first | k_asm | (refine' news_pick ?ka ?kb ?kc ?kd; (case ka => k_asm); (case kb => k_mem); (case kc => k_mem); (case kd => (intro p9 h9; (repeat (first | exact h9 | refine List.mem_cons_of_mem _ ?_)); done)))
      case kl => first | k_asm | (refine' low_pick ?ka ?kb; (case ka => k_asm); (case kb => (intro p9 h9; (repeat (first | exact h9 | refine List.mem_cons_of_mem _ ?_)); done)))
      case km => k_asm
      case sp0 => first | exact Or.inl ⟨by assumption, rfl, rfl⟩ | exact Or.inr ⟨by assumption, by assumption⟩)
example : True := by
  k_with "call ref" => (k_here; (with_reducible show wpAny _ _ (call (Value.ref 168) _) _ _ _); k_dflt (refine' c_rounded ?kB ?kF ?kX ?kN ?kT ?kk ?kd ?ku ?khp ?khs1 ?khs2 ?khs3 ?khb0 ?khb1 ?khn ?_; (case kB => k_asm); (case kF => k_asm); (case kX => k_asm); (case kN => k_asm); (case kT => k_asm); (case kk => first | exact rfl | assumption); (case kd => ktr_room); (case ku => ktr_units); (case khp => (first | assumption | omega | exact Num.neg (by assumption) | l_bnd)); (case khs1 => (first | assumption | omega | exact Num.neg (by assumption) | l_bnd)); (case khs2 => (first | assumption | omega | exact Num.neg (by assumption) | l_bnd)); (case khs3 => (first | assumption | omega | exact Num.neg (by assumption) | l_bnd)); (case khb0 => (first | assumption | omega | exact Num.neg (by assumption) | l_bnd)); (case khb1 => (first | assumption | omega | exact Num.neg (by assumption) | l_bnd)); (case khn => (first | assumption | omega | exact Num.neg (by assumption) | l_bnd))); intro n' e' f9_0 x9 d9 ta9 tb9 tc9 td9 h9 tk9 F9 N9 l9 l8; (have l7 := l9); (try k_lt l7); (try k_lt2 l8); (try k_sweep); (try dsimp only); (try k_fold))
  trivial

theorem c_root {n : Int} {t : Tok} (hdp : dp + 3 < recursionLimit) (hu : un + 24 < cLine)
    (h0 : 0 ≤ n)
    (h1 : n < 2 ^ 40)
    (hret : ∀ (r : Int),  (0 ≤ r) → (r * r ≤ n) → (n < (r + 1) * (r + 1)) → (r < 2 ^ 21) → ∀ t h' tk', Fr h₀ L h' m → News h₀ L h' news → Q (.int (r) t) { s with heap := h', toks := tk' }) :
    wpAny (model PySem.Challenge.rw_pq1014_01.row.prog w) (ktrTop dp un gd cn cs L a ccd cl outer) (call (.ref 252) [.int n t]) Q E s := by
  obtain ⟨hq1, hq2, hq3, hq4⟩ := root_start h0 h1
  k_with "exec While Compare cons nil" => k_while (fun (_ : List Int) f b => 1 ≤ f ∧ f < 2097152 ∧ 1 ≤ b ∧ RootInv n f b) (fun (_ : List Int) f _ => f.toNat) "found" "better"
  k_with "state" => first | exact root_init h0 h1 (by assumption) | exact root_step (by assumption) (by assumption) (by assumption) (by assumption) (by assumption)
  refine wpAny_call ?_
  k_dflt ktr_enter
  k_steps
  all_goals (
      first | (exact absurd rfl (by assumption)) | skip
      refine' hret _ ?sp0 ?sp1 ?sp2 ?sp3 _ _ _ ?kf ?kn
      case kf => k_asm
      case kn => first | k_asm | (refine' cb_drop ?ka ?kb; (case ka => k_asm); (case kb => (intro p9 h9; (repeat (first | exact h9 | refine List.mem_cons_of_mem _ ?_)); done)))
      case sp0 => first | decide | omega | trace_state
      case sp1 => first | (subst_vars; decide) | exact root_end1 (by assumption) (by assumption) (by assumption)
      case sp2 => first | (subst_vars; decide) | exact root_end2 (by assumption) (by assumption)
      case sp3 => first | decide | omega)
example : True := by
  k_with "call ref" => (k_here; (with_reducible show wpAny _ _ (call (Value.ref 252) _) _ _ _); k_dflt (refine' c_root ?kB ?kF ?kX ?kN ?kT ?kk ?kd ?ku ?kh0 ?kh1 ?_; (case kB => k_asm); (case kF => k_asm); (case kX => k_asm); (case kN => k_asm); (case kT => k_asm); (case kk => first | exact rfl | assumption); (case kd => ktr_room); (case ku => ktr_units); (case kh0 => (first | assumption | omega | exact Num.neg (by assumption) | l_bnd)); (case kh1 => (first | assumption | omega | exact Num.neg (by assumption) | l_bnd))); intro r f9_0 f9_1 f9_2 f9_3 t9 h9 tk9 F9 N9; (try k_sweep); (try dsimp only); (try k_fold))
  trivial
example : True := by
  k_with "binaryOp Mult int int" => (k_here; k_dflt (first | refine mul_int ?_ (mulOk_left (sign_natAbs _)) | refine mul_int ?_ (mulOk_right (sign_natAbs _)) | refine mul_int ?_ (mulOk_left (by omega))))
  trivial
example : True := by
  k_with "call ref" => (k_here; (with_reducible show wpAny _ _ (call (Value.ref 140) _) _ _ _); k_dflt (refine' c_lean ?kB ?kF ?kX ?kN ?kT ?kk ?kd ?ku ?khp ?_; (case kB => k_asm); (case kF => k_asm); (case kX => k_asm); (case kN => k_asm); (case kT => k_asm); (case kk => first | exact rfl | assumption); (case kd => ktr_room); (case ku => ktr_units); (case khp => (exact placeOk_div (by assumption) (by assumption) (by assumption) (by assumption) (by assumption) (by assumption) (by assumption)))); intro n' e' f9_0 x9 d9 ta9 tb9 tc9 td9 h9 tk9 F9 N9 l9 l8; (have l7 := l9); (try k_lt l7); (try k_lt2 l8); (try k_sweep); (try dsimp only); (try k_fold))
  trivial
example : True := by
  k_with "call ref" => (k_here; (with_reducible show wpAny _ _ (call (Value.ref 70) _) _ _ _); exfalso; exact div_no (by assumption) (by assumption))
  trivial

theorem c_div {p : Int} {l1 v1 l2 v2 : Nat} {x1 d1 : Addr} {m1 e1 : Int} {u11 u12 u13 u14 : Tok} {x2 d2 : Addr} {m2 e2 : Int} {u21 u22 u23 u24 : Tok} {t : Tok} (hdp : dp + 20 < recursionLimit) (hu : un + 160 < cLine)
    (hx1 : (x1, instObj 108 d1) ∈ news) (hd1 : (d1, dictOf (rdict w m1 e1 u11 u12 u13 u14) 2) ∈ news)
    (hx2 : (x2, instObj 108 d2) ∈ news) (hd2 : (d2, dictOf (rdict w m2 e2 u21 u22 u23 u24) 2) ∈ news)
    (hp : Prec p)
    (hn1 : Num p l1 v1 m1 e1)
    (hn2 : Num p l2 v2 m2 e2)
    (hl1 : l1 ≤ 300)
    (hl2 : l2 ≤ 300)
    (hv1 : v1 ≤ 600)
    (hv2 : v2 ≤ 600)
    (hz : m2 ≠ 0)
    (hret : ∀ (n' : Int) (e' : Int),  (DV p m1 e1 m2 e2 n' e') → (-8193 < n' ∧ n' < 8193) → (-2000 ≤ e' ∧ e' ≤ 2000) → ∀ x d t1 t2 t3 t4 h' tk', Fr h₀ L h' m → News h₀ L h' ((x, instObj 108 d) :: (d, dictOf (rdict w (n') (e') t1 t2 t3 t4) 2) :: news) → (∀ p ∈ news, p.1 < d) → d < x → Q (.ref x) { s with heap := h', toks := tk' }) :
    wpAny (model PySem.Challenge.rw_pq1014_01.row.prog w) (ktrTop dp un gd cn cs L a ccd cl outer) (call (.ref 245) [.int p t, .ref x1, .ref x2]) Q E s := by
  obtain ⟨hp1, hp2⟩ := id hp
  have hs1 := hn1.small hp
  have hs2 := hn2.small hp
  have hlo1 := hn1.lo
  have hlo2 := hn2.lo
  have hhi1 := hn1.hi
  have hhi2 := hn2.hi
  have hq := div_pre hp hn1 hn2 hz
  obtain ⟨hq1, hq2, hq3, hq4, hq5, hq6⟩ := hq
  have hee : -900 ≤ e1 - e2 ∧ e1 - e2 ≤ 900 := by omega
  refine wpAny_call ?_
  k_dflt ktr_enter
  k_steps
  all_goals (
      refine' hret _ _ ?sp0 ?sp1 ?sp2 _ _ _ _ _ _ _ _ ?kf ?kn ?kl ?km
      case kf => k_asm
      case kn => first | k_asm | (refine' news_pick ?ka ?kb ?kc ?kd; (case ka => k_asm); (case kb => k_mem); (case kc => k_mem); (case kd => (intro p9 h9; (repeat (first | exact h9 | refine List.mem_cons_of_mem _ ?_)); done)))
      case kl => first | k_asm | (refine' low_pick ?ka ?kb; (case ka => k_asm); (case kb => (intro p9 h9; (repeat (first | exact h9 | refine List.mem_cons_of_mem _ ?_)); done)))
      case km => k_asm
      case sp0 => exact ⟨_, _, by assumption, by assumption⟩
      case sp1 => exact (dv_bd hp (by assumption) hq1 hq2 hq3 hq4 hee (by assumption)).1
      case sp2 => exact (dv_bd hp (by assumption) hq1 hq2 hq3 hq4 hee (by assumption)).2)
example : True := by
  k_with "call ref" => (k_here; (with_reducible show wpAny _ _ (call (Value.ref 245) _) _ _ _); k_dflt (refine' c_div ?kB ?kF ?kX ?kN ?kT ?kk ?kd ?ku ?khx1 ?khd1 ?khx2 ?khd2 ?khp ?khn1 ?khn2 ?khl1 ?khl2 ?khv1 ?khv2 ?khz ?_; (case kB => k_asm); (case kF => k_asm); (case kX => k_asm); (case kN => k_asm); (case kT => k_asm); (case kk => first | exact rfl | assumption); (case kd => ktr_room); (case ku => ktr_units); (case khx1 => k_mem); (case khd1 => k_mem); (case khx2 => k_mem); (case khd2 => k_mem); (case khp => (first | assumption | omega | exact Num.neg (by assumption) | l_bnd)); (case khn1 => (first | assumption | omega | exact Num.neg (by assumption) | l_bnd)); (case khn2 => (first | assumption | omega | exact Num.neg (by assumption) | l_bnd)); (case khl1 => (first | assumption | omega | exact Num.neg (by assumption) | l_bnd)); (case khl2 => (first | assumption | omega | exact Num.neg (by assumption) | l_bnd)); (case khv1 => (first | assumption | omega | exact Num.neg (by assumption) | l_bnd)); (case khv2 => (first | assumption | omega | exact Num.neg (by assumption) | l_bnd)); (case khz => (first | assumption | omega | exact Num.neg (by assumption) | l_bnd))); intro n' e' f9_0 f9_1 f9_2 x9 d9 ta9 tb9 tc9 td9 h9 tk9 F9 N9 l9 l8; (have l7 := l9); (try k_lt l7); (try k_lt2 l8); (try k_sweep); (try dsimp only); (try k_fold))
  trivial
example : True := by
  k_with "binaryOp BitAnd int int" => (k_here; k_dflt (refine and_one ?_))
  trivial
example : True := by
  k_with "binaryOp FloorDiv int int" => (k_here; k_dflt (refine floordiv_two ?_))
  trivial
example : True := by
  k_with "binaryOp Mod int int" => (k_here; k_dflt (refine mod_two ?_))
  trivial
example : True := by
  k_with "call ref" => (k_here; (with_reducible show wpAny _ _ (call (Value.ref 252) _) _ _ _); k_dflt (refine' c_root ?kB ?kF ?kX ?kN ?kT ?kk ?kd ?ku ?kh0 ?kh1 ?_; (case kB => k_asm); (case kF => k_asm); (case kX => k_asm); (case kN => k_asm); (case kT => k_asm); (case kk => first | exact rfl | assumption); (case kd => ktr_room); (case ku => ktr_units); (case kh0 => (first | exact sq_num0 (by assumption) | exact sq_num1 (by assumption) (by assumption) (by assumption) (by assumption) (by assumption))); (case kh1 => (first | exact sq_num0 (by assumption) | exact sq_num1 (by assumption) (by assumption) (by assumption) (by assumption) (by assumption)))); intro r f9_0 f9_1 f9_2 f9_3 t9 h9 tk9 F9 N9; (try k_sweep); (try dsimp only); (try k_fold))
  trivial
example : True := by
  k_with "call ref" => (k_here; (with_reducible show wpAny _ _ (call (Value.ref 154) _) _ _ _); k_dflt (refine' c_sr ?kB ?kF ?kX ?kN ?kT ?kk ?kd ?ku ?khp ?khb ?khe1 ?khe2 ?_; (case kB => k_asm); (case kF => k_asm); (case kX => k_asm); (case kN => k_asm); (case kT => k_asm); (case kk => first | exact rfl | assumption); (case kd => ktr_room); (case ku => ktr_units); (case khp => (first | assumption | omega | exact big_sq (by assumption) (by assumption))); (case khb => (first | assumption | omega | exact big_sq (by assumption) (by assumption))); (case khe1 => (first | assumption | omega | exact big_sq (by assumption) (by assumption))); (case khe2 => (first | assumption | omega | exact big_sq (by assumption) (by assumption)))); intro n' e' f9_0 x9 d9 ta9 tb9 tc9 td9 h9 tk9 F9 N9 l9 l8; (have l7 := l9); (try k_lt l7); (try k_lt2 l8); (try k_sweep); (try dsimp only); (try k_fold))
  trivial

theorem c_sqrt {p : Int} {l1 v1 : Nat} {x1 d1 : Addr} {m1 e1 : Int} {u11 u12 u13 u14 : Tok} {t : Tok} (hdp : dp + 14 < recursionLimit) (hu : un + 112 < cLine)
    (hx1 : (x1, instObj 108 d1) ∈ news) (hd1 : (d1, dictOf (rdict w m1 e1 u11 u12 u13 u14) 2) ∈ news)
    (hp : Prec p)
    (hn1 : Num p l1 v1 m1 e1)
    (hl1 : l1 ≤ 300)
    (hv1 : v1 ≤ 600)
    (hz : 0 < m1)
    (hret : ∀ (n' : Int) (e' : Int),  (SQ p m1 e1 n' e') → (-8193 < n' ∧ n' < 8193) → (-2000 ≤ e' ∧ e' ≤ 2000) → ∀ x d t1 t2 t3 t4 h' tk', Fr h₀ L h' m → News h₀ L h' ((x, instObj 108 d) :: (d, dictOf (rdict w (n') (e') t1 t2 t3 t4) 2) :: news) → (∀ p ∈ news, p.1 < d) → d < x → Q (.ref x) { s with heap := h', toks := tk' }) :
    wpAny (model PySem.Challenge.rw_pq1014_01.row.prog w) (ktrTop dp un gd cn cs L a ccd cl outer) (call (.ref 259) [.int p t, .ref x1]) Q E s := by
  obtain ⟨hp1, hp2⟩ := id hp
  have hs1 := hn1.small hp
  have hlo1 := hn1.lo
  have hhi1 := hn1.hi
  have hsz := hn1.size hp
  have hee : -600 ≤ e1 ∧ e1 ≤ 600 := by omega
  refine wpAny_call ?_
  k_dflt ktr_enter
  k_steps
  all_goals (try (exfalso; omega))
  all_goals (
      refine' hret _ _ ?sp0 ?sp1 ?sp2 _ _ _ _ _ _ _ _ ?kf ?kn ?kl ?km
      case kf => k_asm
      case kn => first | k_asm | (refine' news_pick ?ka ?kb ?kc ?kd; (case ka => k_asm); (case kb => k_mem); (case kc => k_mem); (case kd => (intro p9 h9; (repeat (first | exact h9 | refine List.mem_cons_of_mem _ ?_)); done)))
      case kl => first | k_asm | (refine' low_pick ?ka ?kb; (case ka => k_asm); (case kb => (intro p9 h9; (repeat (first | exact h9 | refine List.mem_cons_of_mem _ ?_)); done)))
      case km => k_asm
      case sp0 => exact sq_end hp hsz (by assumption) (by assumption) (by assumption) (by assumption) (by assumption) (by assumption)
      case sp1 => exact (sq_bd hp hsz hs1 hee (sq_end hp hsz (by assumption) (by assumption) (by assumption) (by assumption) (by assumption) (by assumption))).1
      case sp2 => exact (sq_bd hp hsz hs1 hee (sq_end hp hsz (by assumption) (by assumption) (by assumption) (by assumption) (by assumption) (by assumption))).2)
example : True := by
  k_with "call ref" => (k_here; (with_reducible show wpAny _ _ (call (Value.ref 259) _) _ _ _); k_dflt (refine' c_sqrt ?kB ?kF ?kX ?kN ?kT ?kk ?kd ?ku ?khx1 ?khd1 ?khp ?khn1 ?khl1 ?khv1 ?khz ?_; (case kB => k_asm); (case kF => k_asm); (case kX => k_asm); (case kN => k_asm); (case kT => k_asm); (case kk => first | exact rfl | assumption); (case kd => ktr_room); (case ku => ktr_units); (case khx1 => k_mem); (case khd1 => k_mem); (case khp => (first | assumption | omega | exact Num.neg (by assumption) | l_bnd)); (case khn1 => (first | assumption | omega | exact Num.neg (by assumption) | l_bnd)); (case khl1 => (first | assumption | omega | exact Num.neg (by assumption) | l_bnd)); (case khv1 => (first | assumption | omega | exact Num.neg (by assumption) | l_bnd)); (case khz => (first | assumption | omega | exact Num.neg (by assumption) | l_bnd))); intro n' e' f9_0 f9_1 f9_2 x9 d9 ta9 tb9 tc9 td9 h9 tk9 F9 N9 l9 l8; (have l7 := l9); (try k_lt l7); (try k_lt2 l8); (try k_sweep); (try dsimp only); (try k_fold))
  trivial

theorem c_whole {x1 d1 : Addr} {m1 e1 : Int} {u11 u12 u13 u14 : Tok} {lo : Int} {t : Tok} (hdp : dp + 2 < recursionLimit) (hu : un + 16 < cLine)
    (hx1 : (x1, instObj 108 d1) ∈ news) (hd1 : (d1, dictOf (rdict w m1 e1 u11 u12 u13 u14) 2) ∈ news)
    (h1 : lo ≤ e1)
    (h2 : e1 - lo ≤ 1000000)
    (h3 : -8193 < m1 ∧ m1 < 8193)
    (hret :  ∀ t h' tk', Fr h₀ L h' m → News h₀ L h' news → Q (.int (m1 * 2 ^ (e1 - lo).toNat) t) { s with heap := h', toks := tk' }) :
    wpAny (model PySem.Challenge.rw_pq1014_01.row.prog w) (ktrTop dp un gd cn cs L a ccd cl outer) (call (.ref 285) [.ref x1, .int lo t]) Q E s := by
  refine wpAny_call ?_
  k_dflt ktr_enter
  k_steps
  all_goals (
      refine' hret   _ _ _ ?kf ?kn
      case kf => k_asm
      case kn => first | k_asm | (refine' cb_drop ?ka ?kb; (case ka => k_asm); (case kb => (intro p9 h9; (repeat (first | exact h9 | refine List.mem_cons_of_mem _ ?_)); done))))
example : True := by
  k_with "call ref" => (k_here; (with_reducible show wpAny _ _ (call (Value.ref 285) _) _ _ _); k_dflt (refine' c_whole ?kB ?kF ?kX ?kN ?kT ?kk ?kd ?ku ?khx1 ?khd1 ?kh1 ?kh2 ?kh3 ?_; (case kB => k_asm); (case kF => k_asm); (case kX => k_asm); (case kN => k_asm); (case kT => k_asm); (case kk => first | exact rfl | assumption); (case kd => ktr_room); (case ku => ktr_units); (case khx1 => k_mem); (case khd1 => k_mem); (case kh1 => (first | assumption | omega | exact Num.neg (by assumption) | l_bnd)); (case kh2 => (first | assumption | omega | exact Num.neg (by assumption) | l_bnd)); (case kh3 => (first | assumption | omega | exact Num.neg (by assumption) | l_bnd))); intro   t9 h9 tk9 F9 N9; (try k_sweep); (try dsimp only); (try k_fold))
  trivial
example : True := by
  k_with "exec While BoolOp" => k_extra "loop"
  trivial

theorem c_room {p n : Int} {t t2 : Tok} (hdp : dp + 2 < recursionLimit) (hu : un + 16 < cLine)
    (hp : Prec p)
    (hf : FF p.toNat n)
    (hret :  ∀ h' tk', Fr h₀ L h' m → News h₀ L h' news → Q (.bool (true)) { s with heap := h', toks := tk' }) :
    wpAny (model PySem.Challenge.rw_pq1014_01.row.prog w) (ktrTop dp un gd cn cs L a ccd cl outer) (call (.ref 292) [.int n t, .int p t2]) Q E s := by
  obtain ⟨hp1, hp2⟩ := id hp
  k_with "loop" => k_while (fun (_ : List Int) r => 0 ≤ r ∧ RoomInv n r) (fun (_ : List Int) r => r.toNat) "rest"
  k_with "state" => first | exact room_init n | exact room_step (by assumption) (by assumption) (by assumption)
  refine wpAny_call ?_
  k_dflt ktr_enter
  k_steps
  all_goals (
      refine' cb_retB (fun _ => hret) ?e ?kf ?kn
      case kf => k_asm
      case kn => first | k_asm | (refine' cb_drop ?ka ?kb; (case ka => k_asm); (case kb => (intro p9 h9; (repeat (first | exact h9 | refine List.mem_cons_of_mem _ ?_)); done)))
      case e => first | exact room_end1 hf (by assumption) (by assumption) | exact room_end2 hp hf (by assumption) (by assumption))
example : True := by
  k_with "call ref" => (k_here; (with_reducible show wpAny _ _ (call (Value.ref 292) _) _ _ _); k_dflt (refine' c_room ?kB ?kF ?kX ?kN ?kT ?kk ?kd ?ku ?khp ?khf ?_; (case kB => k_asm); (case kF => k_asm); (case kX => k_asm); (case kN => k_asm); (case kT => k_asm); (case kk => first | exact rfl | assumption); (case kd => ktr_room); (case ku => ktr_units); (case khp => (first | assumption | omega | exact Num.neg (by assumption) | l_bnd)); (case khf => (first | assumption | omega | exact Num.neg (by assumption) | l_bnd))); intro   h9 tk9 F9 N9; (try k_sweep); (try dsimp only); (try k_fold))
  trivial

theorem c_sqrt0 {x1 d1 : Addr} {m1 e1 : Int} {u11 u12 u13 u14 : Tok} {p : Int} {t : Tok} (hdp : dp + 3 < recursionLimit) (hu : un + 24 < cLine)
    (hx1 : (x1, instObj 108 d1) ∈ news) (hd1 : (d1, dictOf (rdict w m1 e1 u11 u12 u13 u14) 2) ∈ news)
    (hz : m1 = 0)
    (hret :  ∀ h' tk', Fr h₀ L h' m → News h₀ L h' news → Q (.ref x1) { s with heap := h', toks := tk' }) :
    wpAny (model PySem.Challenge.rw_pq1014_01.row.prog w) (ktrTop dp un gd cn cs L a ccd cl outer) (call (.ref 259) [.int p t, .ref x1]) Q E s := by
  subst hz
  refine wpAny_call ?_
  k_dflt ktr_enter
  k_steps
  all_goals first | (exfalso; omega) | exact hret _ _ (by k_asm) (by k_asm)
example : True := by
  k_with "call ref" => (k_here; (with_reducible show wpAny _ _ (call (Value.ref 259) _) _ _ _); k_dflt (refine' c_sqrt0 ?kB ?kF ?kX ?kN ?kT ?kk ?kd ?ku ?khx1 ?khd1 ?khz ?_; (case kB => k_asm); (case kF => k_asm); (case kX => k_asm); (case kN => k_asm); (case kT => k_asm); (case kk => first | exact rfl | assumption); (case kd => ktr_room); (case ku => ktr_units); (case khx1 => k_mem); (case khd1 => k_mem); (case khz => (first | assumption | rfl))); intro   h9 tk9 F9 N9; (try k_sweep); (try dsimp only); (try k_fold))
  trivial
example : True := by
  k_with "call ref" => (k_here; (with_reducible show wpAny _ _ (call (Value.ref 292) _) _ _ _); k_dflt (refine' c_room ?kB ?kF ?kX ?kN ?kT ?kk ?kd ?ku ?khp ?khf ?_; (case kB => k_asm); (case kF => k_asm); (case kX => k_asm); (case kN => k_asm); (case kT => k_asm); (case kk => first | exact rfl | assumption); (case kd => ktr_room); (case ku => ktr_units); (case khp => (first | with_reducible assumption | exact sum_room (by with_reducible assumption) (by with_reducible assumption) (by with_reducible assumption) (by with_reducible assumption) (by with_reducible assumption) (by with_reducible assumption) (by with_reducible assumption) (by with_reducible assumption))); (case khf => (first | with_reducible assumption | exact sum_room (by with_reducible assumption) (by with_reducible assumption) (by with_reducible assumption) (by with_reducible assumption) (by with_reducible assumption) (by with_reducible assumption) (by with_reducible assumption) (by with_reducible assumption)))); intro   h9 tk9 F9 N9; (try k_sweep); (try dsimp only); (try k_fold))
  trivial

theorem c_sumok {p : Int} {x1 d1 : Addr} {m1 e1 : Int} {u11 u12 u13 u14 : Tok} {x2 d2 : Addr} {m2 e2 : Int} {u21 u22 u23 u24 : Tok} {t : Tok} (hdp : dp + 30 < recursionLimit) (hu : un + 240 < cLine)
    (hx1 : (x1, instObj 108 d1) ∈ news) (hd1 : (d1, dictOf (rdict w m1 e1 u11 u12 u13 u14) 2) ∈ news)
    (hx2 : (x2, instObj 108 d2) ∈ news) (hd2 : (d2, dictOf (rdict w m2 e2 u21 u22 u23 u24) 2) ∈ news)
    (hp : Prec p)
    (hn1 : Num p 4 60 m1 e1)
    (hn2 : Num p 4 60 m2 e2)
    (hret :  ∀ h' tk', Fr h₀ L h' m → News h₀ L h' news → Q (.bool (true)) { s with heap := h', toks := tk' }) :
    wpAny (model PySem.Challenge.rw_pq1014_01.row.prog w) (ktrTop dp un gd cn cs L a ccd cl outer) (call (.ref 299) [.int p t, .ref x1, .ref x2]) Q E s := by
  obtain ⟨hp1, hp2⟩ := id hp
  have hs1 := hn1.small hp
  have hlo1 := hn1.lo
  have hhi1 := hn1.hi
  have hs2 := hn2.small hp
  have hlo2 := hn2.lo
  have hhi2 := hn2.hi
  refine wpAny_call ?_
  k_dflt ktr_enter
  k_steps
  all_goals (
      refine' cb_retB (fun _ => hret) ?e ?kf ?kn
      case kf => k_asm
      case kn => first | k_asm | (refine' cb_drop ?ka ?kb; (case ka => k_asm); (case kb => (intro p9 h9; (repeat (first | exact h9 | refine List.mem_cons_of_mem _ ?_)); done)))
      case e => first | rfl | exact twosum_end hp (by with_reducible assumption) hn1 hn2 (by with_reducible assumption) (by with_reducible assumption) (by with_reducible assumption) (by with_reducible assumption) (by with_reducible assumption) (by with_reducible assumption) (by with_reducible assumption) (by with_reducible assumption) (by with_reducible assumption) (by with_reducible assumption) (by with_reducible assumption))
example : True := by
  k_with "call ref" => (k_here; (with_reducible show wpAny _ _ (call (Value.ref 299) _) _ _ _); k_dflt (refine' c_sumok ?kB ?kF ?kX ?kN ?kT ?kk ?kd ?ku ?khx1 ?khd1 ?khx2 ?khd2 ?khp ?khn1 ?khn2 ?_; (case kB => k_asm); (case kF => k_asm); (case kX => k_asm); (case kN => k_asm); (case kT => k_asm); (case kk => first | exact rfl | assumption); (case kd => ktr_room); (case ku => ktr_units); (case khx1 => k_mem); (case khd1 => k_mem); (case khx2 => k_mem); (case khd2 => k_mem); (case khp => (first | assumption | omega | exact Num.neg (by assumption) | l_bnd)); (case khn1 => (first | assumption | omega | exact Num.neg (by assumption) | l_bnd)); (case khn2 => (first | assumption | omega | exact Num.neg (by assumption) | l_bnd))); intro   h9 tk9 F9 N9; (try k_sweep); (try dsimp only); (try k_fold))
  trivial
example : True := by
  k_with "call ref" => (k_here; (with_reducible show wpAny _ _ (call (Value.ref 292) _) _ _ _); k_dflt (refine' c_room ?kB ?kF ?kX ?kN ?kT ?kk ?kd ?ku ?khp ?khf ?_; (case kB => k_asm); (case kF => k_asm); (case kX => k_asm); (case kN => k_asm); (case kT => k_asm); (case kk => first | exact rfl | assumption); (case kd => ktr_room); (case ku => ktr_units); (case khp => (first | with_reducible assumption | exact mul_room (by with_reducible assumption) (by with_reducible assumption) (by with_reducible assumption) (by with_reducible assumption) (by with_reducible assumption) (by with_reducible assumption) (by with_reducible assumption) | exact div_room (by with_reducible assumption) (by with_reducible assumption) (by with_reducible assumption) (by with_reducible assumption) (by with_reducible assumption) (by with_reducible assumption) (by with_reducible assumption) (by with_reducible assumption))); (case khf => (first | with_reducible assumption | exact mul_room (by with_reducible assumption) (by with_reducible assumption) (by with_reducible assumption) (by with_reducible assumption) (by with_reducible assumption) (by with_reducible assumption) (by with_reducible assumption) | exact div_room (by with_reducible assumption) (by with_reducible assumption) (by with_reducible assumption) (by with_reducible assumption) (by with_reducible assumption) (by with_reducible assumption) (by with_reducible assumption) (by with_reducible assumption)))); intro   h9 tk9 F9 N9; (try k_sweep); (try dsimp only); (try k_fold))
  trivial

theorem c_mulok {p : Int} {x1 d1 : Addr} {m1 e1 : Int} {u11 u12 u13 u14 : Tok} {x2 d2 : Addr} {m2 e2 : Int} {u21 u22 u23 u24 : Tok} {t : Tok} (hdp : dp + 30 < recursionLimit) (hu : un + 240 < cLine)
    (hx1 : (x1, instObj 108 d1) ∈ news) (hd1 : (d1, dictOf (rdict w m1 e1 u11 u12 u13 u14) 2) ∈ news)
    (hx2 : (x2, instObj 108 d2) ∈ news) (hd2 : (d2, dictOf (rdict w m2 e2 u21 u22 u23 u24) 2) ∈ news)
    (hp : Prec p)
    (hn1 : Num p 4 60 m1 e1)
    (hn2 : Num p 4 60 m2 e2)
    (hret :  ∀ h' tk', Fr h₀ L h' m → News h₀ L h' news → Q (.bool (true)) { s with heap := h', toks := tk' }) :
    wpAny (model PySem.Challenge.rw_pq1014_01.row.prog w) (ktrTop dp un gd cn cs L a ccd cl outer) (call (.ref 306) [.int p t, .ref x1, .ref x2]) Q E s := by
  obtain ⟨hp1, hp2⟩ := id hp
  have hs1 := hn1.small hp
  have hlo1 := hn1.lo
  have hhi1 := hn1.hi
  have hs2 := hn2.small hp
  have hlo2 := hn2.lo
  have hhi2 := hn2.hi
  refine wpAny_call ?_
  k_dflt ktr_enter
  k_steps
  all_goals (
      refine' cb_retB (fun _ => hret) ?e ?kf ?kn
      case kf => k_asm
      case kn => first | k_asm | (refine' cb_drop ?ka ?kb; (case ka => k_asm); (case kb => (intro p9 h9; (repeat (first | exact h9 | refine List.mem_cons_of_mem _ ?_)); done)))
      case e => rfl)
example : True := by
  k_with "call ref" => (k_here; (with_reducible show wpAny _ _ (call (Value.ref 306) _) _ _ _); k_dflt (refine' c_mulok ?kB ?kF ?kX ?kN ?kT ?kk ?kd ?ku ?khx1 ?khd1 ?khx2 ?khd2 ?khp ?khn1 ?khn2 ?_; (case kB => k_asm); (case kF => k_asm); (case kX => k_asm); (case kN => k_asm); (case kT => k_asm); (case kk => first | exact rfl | assumption); (case kd => ktr_room); (case ku => ktr_units); (case khx1 => k_mem); (case khd1 => k_mem); (case khx2 => k_mem); (case khd2 => k_mem); (case khp => (first | assumption | omega | exact Num.neg (by assumption) | l_bnd)); (case khn1 => (first | assumption | omega | exact Num.neg (by assumption) | l_bnd)); (case khn2 => (first | assumption | omega | exact Num.neg (by assumption) | l_bnd))); intro   h9 tk9 F9 N9; (try k_sweep); (try dsimp only); (try k_fold))
  trivial
example : True := by
  k_with "call ref" => (k_here; (with_reducible show wpAny _ _ (call (Value.ref 292) _) _ _ _); k_dflt (refine' c_room ?kB ?kF ?kX ?kN ?kT ?kk ?kd ?ku ?khp ?khf ?_; (case kB => k_asm); (case kF => k_asm); (case kX => k_asm); (case kN => k_asm); (case kT => k_asm); (case kk => first | exact rfl | assumption); (case kd => ktr_room); (case ku => ktr_units); (case khp => (first | exact sqrt_room (by with_reducible assumption) (by with_reducible assumption) (by with_reducible assumption) (by with_reducible assumption) (by with_reducible assumption) (by with_reducible assumption) (by with_reducible assumption) (by with_reducible assumption) | exact sqrt_room0 (by with_reducible assumption) | with_reducible assumption)); (case khf => (first | exact sqrt_room (by with_reducible assumption) (by with_reducible assumption) (by with_reducible assumption) (by with_reducible assumption) (by with_reducible assumption) (by with_reducible assumption) (by with_reducible assumption) (by with_reducible assumption) | exact sqrt_room0 (by with_reducible assumption) | with_reducible assumption))); intro   h9 tk9 F9 N9; (try k_sweep); (try dsimp only); (try k_fold))
  trivial

theorem c_rootok {p : Int} {x1 d1 : Addr} {m1 e1 : Int} {u11 u12 u13 u14 : Tok} {t : Tok} (hdp : dp + 30 < recursionLimit) (hu : un + 240 < cLine)
    (hx1 : (x1, instObj 108 d1) ∈ news) (hd1 : (d1, dictOf (rdict w m1 e1 u11 u12 u13 u14) 2) ∈ news)
    (hp : Prec p)
    (hn1 : Num p 4 60 m1 e1)
    (hret :  ∀ h' tk', Fr h₀ L h' m → News h₀ L h' news → Q (.bool (true)) { s with heap := h', toks := tk' }) :
    wpAny (model PySem.Challenge.rw_pq1014_01.row.prog w) (ktrTop dp un gd cn cs L a ccd cl outer) (call (.ref 313) [.int p t, .ref x1]) Q E s := by
  obtain ⟨hp1, hp2⟩ := id hp
  have hs1 := hn1.small hp
  have hlo1 := hn1.lo
  have hhi1 := hn1.hi
  by_cases hz0 : m1 = 0
  · refine wpAny_call ?_
    k_dflt ktr_enter
    k_steps
    all_goals (
        refine' cb_retB (fun _ => hret) ?e ?kf ?kn
        case kf => k_asm
        case kn => first | k_asm | (refine' cb_drop ?ka ?kb; (case ka => k_asm); (case kb => (intro p9 h9; (repeat (first | exact h9 | refine List.mem_cons_of_mem _ ?_)); done)))
        case e => rfl)
  · refine wpAny_call ?_
    k_dflt ktr_enter
    k_steps
    all_goals (
        refine' cb_retB (fun _ => hret) ?e ?kf ?kn
        case kf => k_asm
        case kn => first | k_asm | (refine' cb_drop ?ka ?kb; (case ka => k_asm); (case kb => (intro p9 h9; (repeat (first | exact h9 | refine List.mem_cons_of_mem _ ?_)); done)))
        case e => rfl)
example : True := by
  k_with "call ref" => (k_here; (with_reducible show wpAny _ _ (call (Value.ref 313) _) _ _ _); k_dflt (refine' c_rootok ?kB ?kF ?kX ?kN ?kT ?kk ?kd ?ku ?khx1 ?khd1 ?khp ?khn1 ?_; (case kB => k_asm); (case kF => k_asm); (case kX => k_asm); (case kN => k_asm); (case kT => k_asm); (case kk => first | exact rfl | assumption); (case kd => ktr_room); (case ku => ktr_units); (case khx1 => k_mem); (case khd1 => k_mem); (case khp => (first | assumption | omega | exact Num.neg (by assumption) | l_bnd)); (case khn1 => (first | assumption | omega | exact Num.neg (by assumption) | l_bnd))); intro   h9 tk9 F9 N9; (try k_sweep); (try dsimp only); (try k_fold))
  trivial

theorem c_order {p : Int} {x1 d1 : Addr} {m1 e1 : Int} {u11 u12 u13 u14 : Tok} {x2 d2 : Addr} {m2 e2 : Int} {u21 u22 u23 u24 : Tok} {x3 d3 : Addr} {m3 e3 : Int} {u31 u32 u33 u34 : Tok} {t : Tok} (hdp : dp + 30 < recursionLimit) (hu : un + 240 < cLine)
    (hx1 : (x1, instObj 108 d1) ∈ news) (hd1 : (d1, dictOf (rdict w m1 e1 u11 u12 u13 u14) 2) ∈ news)
    (hx2 : (x2, instObj 108 d2) ∈ news) (hd2 : (d2, dictOf (rdict w m2 e2 u21 u22 u23 u24) 2) ∈ news)
    (hx3 : (x3, instObj 108 d3) ∈ news) (hd3 : (d3, dictOf (rdict w m3 e3 u31 u32 u33 u34) 2) ∈ news)
    (hp : Prec p)
    (hn1 : Num p 4 60 m1 e1)
    (hn2 : Num p 4 60 m2 e2)
    (hn3 : Num p 4 60 m3 e3)
    (hret :  ∀ h' tk', Fr h₀ L h' m → News h₀ L h' news → Q (.bool (true)) { s with heap := h', toks := tk' }) :
    wpAny (model PySem.Challenge.rw_pq1014_01.row.prog w) (ktrTop dp un gd cn cs L a ccd cl outer) (call (.ref 327) [.int p t, .ref x1, .ref x2, .ref x3]) Q E s := by
  obtain ⟨hp1, hp2⟩ := id hp
  have hs1 := hn1.small hp
  have hlo1 := hn1.lo
  have hhi1 := hn1.hi
  have hs2 := hn2.small hp
  have hlo2 := hn2.lo
  have hhi2 := hn2.hi
  have hs3 := hn3.small hp
  have hlo3 := hn3.lo
  have hhi3 := hn3.hi
  refine wpAny_call ?_
  k_dflt ktr_enter
  k_steps
  all_goals (
      first
      | (exfalso; first | exact ord_addA hp hn1 hn2 hn3 (by with_reducible assumption) (by with_reducible assumption) (by with_reducible assumption) (by with_reducible assumption) (by with_reducible assumption) (by with_reducible assumption) | exact ord_addB hp hn1 hn2 hn3 (by with_reducible assumption) (by with_reducible assumption) (by with_reducible assumption) (by with_reducible assumption) (by with_reducible assumption) (by with_reducible assumption))
      | (refine' cb_retB (fun _ => hret) ?e ?kf ?kn
         case kf => k_asm
         case kn => first | k_asm | (refine' cb_drop ?ka ?kb; (case ka => k_asm); (case kb => (intro p9 h9; (repeat (first | exact h9 | refine List.mem_cons_of_mem _ ?_)); done)))
         case e => first | rfl | exact ord_mulA hp hn1 hn2 hn3 (by with_reducible assumption) (by with_reducible assumption) (by with_reducible assumption) (by with_reducible assumption) (by with_reducible assumption) (by with_reducible assumption) | exact ord_mulB hp hn1 hn2 hn3 (by with_reducible assumption) (by with_reducible assumption) (by with_reducible assumption) (by with_reducible assumption) (by with_reducible assumption) (by with_reducible assumption) | exact ord_mulC hp hn1 hn2 hn3 (by with_reducible assumption) (by with_reducible assumption) (by with_reducible assumption) (by with_reducible assumption) (by with_reducible assumption) (by with_reducible assumption) | exact ord_mulD hp hn1 hn2 hn3 (by with_reducible assumption) (by with_reducible assumption) (by with_reducible assumption) (by with_reducible assumption) (by with_reducible assumption) (by with_reducible assumption)))
example : True := by
  k_with "call ref" => (k_here; (with_reducible show wpAny _ _ (call (Value.ref 327) _) _ _ _); k_dflt (refine' c_order ?kB ?kF ?kX ?kN ?kT ?kk ?kd ?ku ?khx1 ?khd1 ?khx2 ?khd2 ?khx3 ?khd3 ?khp ?khn1 ?khn2 ?khn3 ?_; (case kB => k_asm); (case kF => k_asm); (case kX => k_asm); (case kN => k_asm); (case kT => k_asm); (case kk => first | exact rfl | assumption); (case kd => ktr_room); (case ku => ktr_units); (case khx1 => k_mem); (case khd1 => k_mem); (case khx2 => k_mem); (case khd2 => k_mem); (case khx3 => k_mem); (case khd3 => k_mem); (case khp => (first | assumption | omega | exact Num.neg (by assumption) | l_bnd)); (case khn1 => (first | assumption | omega | exact Num.neg (by assumption) | l_bnd)); (case khn2 => (first | assumption | omega | exact Num.neg (by assumption) | l_bnd)); (case khn3 => (first | assumption | omega | exact Num.neg (by assumption) | l_bnd))); intro   h9 tk9 F9 N9; (try k_sweep); (try dsimp only); (try k_fold))
  trivial
local macro_rules | `(tactic| k_all) => `(tactic| with_reducible assumption)
example : True := by
  k_with "compareOp NotEq ref ref" => (k_here; (with_reducible show wpAny _ _ (compareOp CmpOp.NotEq (Value.ref _) (Value.ref _)) _ _ _); k_dflt (refine' ne_intsK ?k1 ?k2 ?k3 ?k4 ?k5 ?_; (case k1 => exact News.isList (by k_asm) (by k_mem)); (case k2 => assumption); (case k3 => exact News.isList (us := []) (by k_asm) (by k_mem)); (case k4 => exact IntsAre.nil); (case k5 => ktr_units)); (try dsimp only); (try k_fold))
  trivial
example : True := by
  k_with "compareOp Eq ref ref" => (k_here; (with_reducible show wpAny _ _ (compareOp CmpOp.Eq (Value.ref _) (Value.ref _)) _ _ _); k_dflt (refine' eq_intsK ?k1 ?k2 ?k3 ?k4 ?k5 ?_; (case k1 => exact News.isList (by k_asm) (by k_mem)); (case k2 => assumption); (case k3 => exact News.isList (us := []) (by k_asm) (by k_mem)); (case k4 => exact IntsAre.nil); (case k5 => ktr_units)); (try dsimp only); (try k_fold))
  trivial
example : True := by
  k_with "subscriptTail" => (k_here; (with_reducible show wpAny _ _ (subscriptTail _ _ (Value.ref _) (Value.int _ _)) _ _ _); k_dflt (refine' ksa_sub ?k1 ?k2 ?k3 ?k4 ?k5 ?k6 ?_ ?k7; (case k1 => k_asm); (case k2 => k_mem); (case k3 => with_reducible assumption); (case k4 => exact (by decide : (0:Int) ≤ 0)); (case k5 => exact ne_len (by with_reducible assumption)); (case k6 => decide); (case k7 => with_unfolding_all rfl); k_whole); intro _)
  trivial
example : True := by
  k_with "getMethod ref" => (k_here; (with_reducible show wpAny _ _ (getMethod (Value.ref _) (PySem.Str.ofString "pop") _) _ _ _); k_dflt (refine' kl_method ?N ?m PySem.F.slot_list_pop PySem.F.type_list_pop ?_; (case N => k_asm); (case m => k_mem)))
  trivial
example : True := by
  k_with "call builtin:list.pop" => (k_here; (try dsimp only [List.nil_append, List.cons_append]); (with_reducible show wpAny _ _ (call (Value.builtin _) [Value.ref _, Value.int _ _]) _ _ _); k_dflt (refine' pop0_ints ?F ?N ?U ?i ?l ?z ?_; (case F => k_asm); (case N => k_asm); (case U => k_upd); (case i => with_reducible assumption); (case l => with_reducible assumption); (case z => exact deck_room (by with_reducible assumption) (by with_reducible assumption))); intro h9 t9 F9 N9 i9; (try dsimp only [List.nil_append, List.cons_append] at N9))
  trivial
example : True := by
  k_with "setItem ref int" => (k_here; (with_reducible show wpAny _ _ (setItem (Value.ref _) (Value.int _ _) (Value.int _ _)) _ _ _); k_dflt (refine' ksa_set ?k1 ?k2 ?k3 ?k4 ?k5 ?k6 ?k7 ?_; (case k1 => k_asm); (case k2 => k_asm); (case k3 => k_upd); (case k4 => with_reducible assumption); (case k5 => exact (by decide : (0:Int) ≤ 0)); (case k6 => exact ne_len (by with_reducible assumption)); (case k7 => decide); k_whole); intro h9 F9 N9 i9 l9 s9; (try k_sweep))
  trivial
example : True := by
  k_with "binaryOp FloorDiv int int" => (k_here; (with_reducible refine floordiv_int ?kbe ?_ (Or.inl (PyProof.noPylong_small ?kbp))); (case kbe => (first | with_reducible assumption | decide)); (case kbp => (first | with_reducible assumption | decide)))
  trivial
example : True := by
  k_with "binaryOp Mod int int" => (k_here; (with_reducible refine mod_int' ?kbe ?_); (case kbe => (first | with_reducible assumption | decide)))
  trivial

omit B F X N T hk in
theorem c_draw {w : World} {mean : ExcName → Option Value} {mg mb : Str → Option Value} {dp un : Nat} {gd : Option (List Code)} {cn : Str} {cs : Scope} {L a : Addr} {ccd : Value} {cl : List (Str × Addr)} {outer : List Env} {A₀ : Around} {base h₀ : Heap} {m : Str → Option Value} {s : Shared} {Q E : Value → Shared → Prop} {news : List (Addr × Obj)} {xd : Addr} {vs : List Value} {nd : Nat} {ns : List Int} {many : Int} {t : Tok}
  (B : Below A₀ base outer h₀) (F : Fr h₀ L s.heap m) (X : (hd.heap_1 w.params).In h₀) (N : News h₀ L s.heap ((xd, listOf vs.toArray nd) :: news)) (T : Top view (looseW view [Str.ofString "REACH"]) mean mg mb h₀) (hk : cs.kind = .function)
  (hfar : ∀ p ∈ news, p.1 ≠ xd) (hI : IntsAre vs ns) (hD : Deck ns) (hdp : dp + 14 < recursionLimit) (hu : un + 112 < cLine)
    (hm : 1 ≤ many)
    (hm2 : many ≤ 1000000)
    (hret : ∀ vs' nd' ns' h' tk', IntsAre vs' ns' → Deck ns' → Fr h₀ L h' m → News h₀ L h' ((xd, listOf vs'.toArray nd') :: news) → ∀ r t, 0 ≤ r → r < many → Q (.int r t) { s with heap := h', toks := tk' }) :
    wpAny (model PySem.Challenge.rw_pq1014_01.row.prog w) (ktrTop dp un gd cn cs L a ccd cl outer) (call (.ref 271) [.ref xd, .int many t]) Q E s := by
  have hm0 : many ≠ 0 := by omega
  have hm3 : many.natAbs < 1073741824 := by omega
  k_with "loop" => k_while (fun (_ : List Int) ds => Deck ds) (fun (_ : List Int) ds => ds.length) "deck"
  k_with "state" => first | exact hD | exact deck_tail (by with_reducible assumption)
  k_with "measure" => exact tail_less (by with_reducible assumption)
  refine wpAny_call ?_
  k_dflt ktr_enter
  k_steps
  all_goals (
      refine' hret _ _ _ _ _ ?i ?d ?kf ?kn _ _ ?r0 ?r1
      case kn => (refine' news_keep ?ka ?kb ?kc; (case ka => k_asm); (case kb => k_mem); (case kc => (intro p9 h9; (repeat (first | exact h9 | refine List.mem_cons_of_mem _ ?_)); done)))
      case i => with_reducible assumption
      case d => first | exact kInv | exact deck_set kInv (by with_reducible assumption) hm
      case kf => k_asm
      case r0 => first | exact Int.le_refl 0 | exact fmod_lo hm
      case r1 => first | exact fmod_hi hm | exact Int.lt_of_lt_of_le (by decide) hm)

omit B F X N T hk in
theorem u_draw {w : World} {mean : ExcName → Option Value} {mg mb : Str → Option Value} {dp un : Nat} {gd : Option (List Code)} {cn : Str} {cs : Scope} {L a : Addr} {ccd : Value} {cl : List (Str × Addr)} {outer : List Env} {A₀ : Around} {base h₀ : Heap} {m : Str → Option Value} {s : Shared} {Q E : Value → Shared → Prop} {xd : Addr} {vs : List Value} {nd : Nat} {ns : List Int} {full : List (Addr × Obj)} {upd : Obj → List (Addr × Obj)} {many : Int} {t : Tok}
  (B : Below A₀ base outer h₀) (F : Fr h₀ L s.heap m) (X : (hd.heap_1 w.params).In h₀) (N : News h₀ L s.heap full) (T : Top view (looseW view [Str.ofString "REACH"]) mean mg mb h₀) (hk : cs.kind = .function)
  (U : ∀ o9, Upd xd (listOf vs.toArray nd) o9 full (upd o9)) (hI : IntsAre vs ns) (hD : Deck ns) (hdp : dp + 14 < recursionLimit) (hu : un + 112 < cLine)
    (hm : 1 ≤ many)
    (hm2 : many ≤ 1000000)
    (hret : ∀ vs' nd' ns' h' tk', IntsAre vs' ns' → Deck ns' → Fr h₀ L h' m → News h₀ L h' (upd (listOf vs'.toArray nd')) → ∀ r t, 0 ≤ r → r < many → Q (.int r t) { s with heap := h', toks := tk' }) :
    wpAny (model PySem.Challenge.rw_pq1014_01.row.prog w) (ktrTop dp un gd cn cs L a ccd cl outer) (call (.ref 271) [.ref xd, .int many t]) Q E s :=
  c_draw B F X (upd_from U N) T hk upd_far hI hD hdp hu hm hm2 fun vs' nd' ns' h' tk' i' D' F' N' => hret vs' nd' ns' h' tk' i' D' F' (upd_back U N')
example : True := by
  k_with "call ref" => (k_here; (with_reducible show wpAny _ _ (call (Value.ref 271) _) _ _ _); k_dflt (refine' u_draw ?kB ?kF ?kX ?kN ?kT ?kk ?kU ?khI ?khD ?kd ?ku ?khm ?khm2 ?_; (case kB => k_asm); (case kF => k_asm); (case kX => k_asm); (case kN => k_asm); (case kT => k_asm); (case kk => first | exact rfl | assumption); (case kU => (intro o9; k_upd)); (case khI => with_reducible assumption); (case khD => with_reducible assumption); (case kd => ktr_room); (case ku => ktr_units); (case khm => (first | with_reducible assumption | decide)); (case khm2 => (first | with_reducible assumption | decide))); intro vs9 nd9 ns9 h9 tk9 i9 D9 F9 N9 r9 t9 lo9 hi9; (try dsimp only at N9); (try k_sweep); (try dsimp only); (try k_fold))
  trivial
local macro_rules | `(tactic| k_all) => `(tactic| with_reducible assumption)

theorem c_made {p n e : Int} {l : Nat} {t t2 t3 : Tok} (hdp : dp + 10 < recursionLimit) (hu : un + 80 < cLine)
    (hp : Prec p)
    (h1 : -(2 ^ p.toNat) < n)
    (h2 : n < 2 ^ p.toNat)
    (e1 : -(l : Int) ≤ e)
    (e2 : e ≤ 40)
    (hl : l ≤ 20)
    (hret : ∀ (n' : Int) (e' : Int),  (Num p l 60 n' e') → ∀ x d t1 t2 t3 t4 h' tk', Fr h₀ L h' m → News h₀ L h' ((x, instObj 108 d) :: (d, dictOf (rdict w (n') (e') t1 t2 t3 t4) 2) :: news) → (∀ p ∈ news, p.1 < d) → d < x → Q (.ref x) { s with heap := h', toks := tk' }) :
    wpAny (model PySem.Challenge.rw_pq1014_01.row.prog w) (ktrTop dp un gd cn cs L a ccd cl outer) (call (.ref 154) [.int p t, .int n t2, .int e t3]) Q E s := by
  have hq := pow_p hp
  exact c_sr B F X N T hk (by omega) (by omega) hp (big_lt (by omega) (by omega)) (by omega) (by omega) fun n' e' f => hret n' e' (made_num hp h1 h2 e1 e2 hl f)
example : True := by
  k_with "call ref" => (k_here; (with_reducible show wpAny _ _ (call (Value.ref 154) _) _ _ _); k_dflt (refine' c_made ?kB ?kF ?kX ?kN ?kT ?kk ?kd ?ku ?khp ?kh1 ?kh2 ?ke1 ?ke2 ?khl ?_; (case kB => k_asm); (case kF => k_asm); (case kX => k_asm); (case kN => k_asm); (case kT => k_asm); (case kk => first | exact rfl | assumption); (case kd => ktr_room); (case ku => ktr_units); (case khp => (first | with_reducible assumption | omega)); (case kh1 => (first | with_reducible assumption | omega)); (case kh2 => (first | with_reducible assumption | omega)); (case ke1 => (first | with_reducible assumption | omega)); (case ke2 => (first | with_reducible assumption | omega)); (case khl => (first | with_reducible assumption | omega))); intro n' e' f9_0 x9 d9 ta9 tb9 tc9 td9 h9 tk9 F9 N9 l9 l8; (have l7 := l9); (try k_lt l7); (try k_lt2 l8); (try k_sweep); (try dsimp only); (try k_fold))
  trivial
example : True := by
  k_with "call ref" => (k_here; (with_reducible show wpAny _ _ (call (Value.ref 154) _) _ _ _); k_dflt (refine' c_made (l := 4) ?kB ?kF ?kX ?kN ?kT ?kk ?kd ?ku ?khp ?kh1 ?kh2 ?ke1 ?ke2 ?khl ?_; (case kB => k_asm); (case kF => k_asm); (case kX => k_asm); (case kN => k_asm); (case kT => k_asm); (case kk => first | exact rfl | assumption); (case kd => ktr_room); (case ku => ktr_units); (case khp => (first | with_reducible assumption | omega)); (case kh1 => (first | with_reducible assumption | omega)); (case kh2 => (first | with_reducible assumption | omega)); (case ke1 => (first | with_reducible assumption | omega)); (case ke2 => (first | with_reducible assumption | omega)); (case khl => (first | with_reducible assumption | omega))); intro n' e' f9_0 x9 d9 ta9 tb9 tc9 td9 h9 tk9 F9 N9 l9 l8; (have l7 := l9); (try k_lt l7); (try k_lt2 l8); (have g9m := f9_0.small (by with_reducible assumption)); (have g9e := f9_0.lo); (have g9f := f9_0.hi); (try k_sweep); (try dsimp only); (try k_fold))
  trivial
example : True := by
  k_with "binaryOp Mod int int" => (k_here; k_dflt (refine mod_eight ?_))
  trivial

omit B F X N T hk in
theorem c_number {w : World} {mean : ExcName → Option Value} {mg mb : Str → Option Value} {dp un : Nat} {gd : Option (List Code)} {cn : Str} {cs : Scope} {L a : Addr} {ccd : Value} {cl : List (Str × Addr)} {outer : List Env} {A₀ : Around} {base h₀ : Heap} {m : Str → Option Value} {s : Shared} {Q E : Value → Shared → Prop} {news : List (Addr × Obj)} {xd : Addr} {vs : List Value} {nd : Nat} {ns : List Int} {p : Int} {t : Tok}
  (B : Below A₀ base outer h₀) (F : Fr h₀ L s.heap m) (X : (hd.heap_1 w.params).In h₀) (N : News h₀ L s.heap ((xd, listOf vs.toArray nd) :: news)) (T : Top view (looseW view [Str.ofString "REACH"]) mean mg mb h₀) (hk : cs.kind = .function)
  (hfar : ∀ p ∈ news, p.1 ≠ xd) (hI : IntsAre vs ns) (hD : Deck ns) (hdp : dp + 26 < recursionLimit) (hu : un + 208 < cLine)
    (hp : Prec p)
    (hret : ∀ vs' nd' ns' h' tk', IntsAre vs' ns' → Deck ns' → Fr h₀ L h' m → ∀ x d n' e' t1 t2 t3 t4, Num p 4 60 n' e' → News h₀ L h' ((x, instObj 108 d) :: (d, dictOf (rdict w n' e' t1 t2 t3 t4) 2) :: (xd, listOf vs'.toArray nd') :: news) → (∀ p ∈ news, p.1 < d) → xd < d → d < x → Q (.ref x) { s with heap := h', toks := tk' }) :
    wpAny (model PySem.Challenge.rw_pq1014_01.row.prog w) (ktrTop dp un gd cn cs L a ccd cl outer) (call (.ref 278) [.ref xd, .int p t]) Q E s := by
  obtain ⟨hp1, hp2⟩ := id hp
  have hq := pow_p hp
  have hq0 := pow_lo (k := p.toNat)
  have hq2 : (2 : Int) ^ p.toNat ≤ 1000000 := by omega
  refine wpAny_call ?_
  k_dflt ktr_enter
  k_steps
  all_goals (
      refine' hret _ _ _ _ _ ?i ?d ?kf _ _ _ _ _ _ _ _ ?nm ?kn ?kl ?kx ?km
      case nm => with_reducible assumption
      case kn => (refine' news_pick3 ?ka ?kb ?kc ?ke ?kd; (case ka => k_asm); (case kb => k_mem); (case kc => k_mem); (case ke => k_mem); (case kd => (intro p9 h9; (repeat (first | exact h9 | refine List.mem_cons_of_mem _ ?_)); done)))
      case i => with_reducible assumption
      case d => with_reducible assumption
      case kf => k_asm
      case kl => (refine' low_pick ?ka ?kb; (case ka => k_asm); (case kb => (intro p9 h9; (repeat (first | exact h9 | refine List.mem_cons_of_mem _ ?_)); done)))
      case kx => (refine' low_at ?ka ?kb; rotate_left; (case ka => k_asm); (case kb => k_mem))
      case km => k_asm)
example : True := by
  k_with "call ref" => (k_here; (with_reducible show wpAny _ _ (call (Value.ref 154) _) _ _ _); k_dflt (refine' c_made (l := 11) ?kB ?kF ?kX ?kN ?kT ?kk ?kd ?ku ?khp ?kh1 ?kh2 ?ke1 ?ke2 ?khl ?_; (case kB => k_asm); (case kF => k_asm); (case kX => k_asm); (case kN => k_asm); (case kT => k_asm); (case kk => first | exact rfl | assumption); (case kd => ktr_room); (case ku => ktr_units); (case khp => (first | with_reducible assumption | omega)); (case kh1 => (first | with_reducible assumption | omega)); (case kh2 => (first | with_reducible assumption | omega)); (case ke1 => (first | with_reducible assumption | omega)); (case ke2 => (first | with_reducible assumption | omega)); (case khl => (first | with_reducible assumption | omega))); intro n' e' f9_0 x9 d9 ta9 tb9 tc9 td9 h9 tk9 F9 N9 l9 l8; (have l7 := l9); (try k_lt l7); (try k_lt2 l8); (have g9m := f9_0.small (by with_reducible assumption)); (have g9e := f9_0.lo); (have g9f := f9_0.hi); (try k_sweep); (try dsimp only); (try k_fold))
  trivial

omit B F X N T hk in
theorem c_near2 {w : World} {mean : ExcName → Option Value} {mg mb : Str → Option Value} {dp un : Nat} {gd : Option (List Code)} {cn : Str} {cs : Scope} {L a : Addr} {ccd : Value} {cl : List (Str × Addr)} {outer : List Env} {A₀ : Around} {base h₀ : Heap} {m : Str → Option Value} {s : Shared} {Q E : Value → Shared → Prop} {news : List (Addr × Obj)} {xd : Addr} {vs : List Value} {nd : Nat} {ns : List Int} {p : Int} {t : Tok}
  (B : Below A₀ base outer h₀) (F : Fr h₀ L s.heap m) (X : (hd.heap_1 w.params).In h₀) (N : News h₀ L s.heap ((xd, listOf vs.toArray nd) :: news)) (T : Top view (looseW view [Str.ofString "REACH"]) mean mg mb h₀) (hk : cs.kind = .function)
  (hfar : ∀ p ∈ news, p.1 ≠ xd) (hI : IntsAre vs ns) (hD : Deck ns) (hdp : dp + 40 < recursionLimit) (hu : un + 320 < cLine)
    (hp : Prec p)
    (hret : ∀ vs' nd' ns' h' tk', IntsAre vs' ns' → Deck ns' → Fr h₀ L h' m → News h₀ L h' ((xd, listOf vs'.toArray nd') :: news) → Q (.bool true) { s with heap := h', toks := tk' }) :
    wpAny (model PySem.Challenge.rw_pq1014_01.row.prog w) (ktrTop dp un gd cn cs L a ccd cl outer) (call (.ref 320) [.ref xd, .int p t]) Q E s := by
  obtain ⟨hp1, hp2⟩ := id hp
  have hq := pow_p hp
  have hh := pow_half hp
  have hq0 := pow_lo (k := (p-1).toNat)
  have hq2 : (2 : Int) ^ (p - 1).toNat ≤ 1000000 := by omega
  refine wpAny_call ?_
  k_dflt ktr_enter
  k_steps
  all_goals (
      refine' near_fin hret ?kn ?i ?d ?kf ?e
      case kn => (refine' news_keep ?ka ?kb ?kc; (case ka => k_asm); (case kb => k_mem); (case kc => (intro p9 h9; (repeat (first | exact h9 | refine List.mem_cons_of_mem _ ?_)); done)))
      case i => with_reducible assumption
      case d => with_reducible assumption
      case kf => k_asm
      case e => first | rfl | exact near_end hp (by with_reducible assumption) (by with_reducible assumption) (by with_reducible assumption) (by with_reducible assumption) (by with_reducible assumption) (by with_reducible assumption) (by with_reducible assumption) (by with_reducible assumption) (by with_reducible assumption))

omit B F X N T hk in
theorem u_near {w : World} {mean : ExcName → Option Value} {mg mb : Str → Option Value} {dp un : Nat} {gd : Option (List Code)} {cn : Str} {cs : Scope} {L a : Addr} {ccd : Value} {cl : List (Str × Addr)} {outer : List Env} {A₀ : Around} {base h₀ : Heap} {m : Str → Option Value} {s : Shared} {Q E : Value → Shared → Prop} {xd : Addr} {vs : List Value} {nd : Nat} {ns : List Int} {full : List (Addr × Obj)} {upd : Obj → List (Addr × Obj)} {p : Int} {t : Tok}
  (B : Below A₀ base outer h₀) (F : Fr h₀ L s.heap m) (X : (hd.heap_1 w.params).In h₀) (N : News h₀ L s.heap full) (T : Top view (looseW view [Str.ofString "REACH"]) mean mg mb h₀) (hk : cs.kind = .function)
  (U : ∀ o9, Upd xd (listOf vs.toArray nd) o9 full (upd o9)) (hI : IntsAre vs ns) (hD : Deck ns) (hdp : dp + 40 < recursionLimit) (hu : un + 320 < cLine)
    (hp : Prec p)
    (hret : ∀ vs' nd' ns' h' tk', IntsAre vs' ns' → Deck ns' → Fr h₀ L h' m → News h₀ L h' (upd (listOf vs'.toArray nd')) → Q (.bool true) { s with heap := h', toks := tk' }) :
    wpAny (model PySem.Challenge.rw_pq1014_01.row.prog w) (ktrTop dp un gd cn cs L a ccd cl outer) (call (.ref 320) [.ref xd, .int p t]) Q E s :=
  c_near2 B F X (upd_from U N) T hk upd_far hI hD hdp hu hp fun vs' nd' ns' h' tk' i' D' F' N' => hret vs' nd' ns' h' tk' i' D' F' (upd_back U N')
example : True := by
  k_with "call ref" => (k_here; (with_reducible show wpAny _ _ (call (Value.ref 320) _) _ _ _); k_dflt (refine' u_near ?kB ?kF ?kX ?kN ?kT ?kk ?kU ?khI ?khD ?kd ?ku ?khp ?_; (case kB => k_asm); (case kF => k_asm); (case kX => k_asm); (case kN => k_asm); (case kT => k_asm); (case kk => first | exact rfl | assumption); (case kU => (intro o9; k_upd)); (case khI => with_reducible assumption); (case khD => with_reducible assumption); (case kd => ktr_room); (case ku => ktr_units); (case khp => (first | with_reducible assumption))); intro vs9 nd9 ns9 h9 tk9 i9 D9 F9 N9 ; (try dsimp only at N9); (try k_sweep); (try dsimp only); (try k_fold))
  trivial

omit B F X N T hk in
theorem u_number {w : World} {mean : ExcName → Option Value} {mg mb : Str → Option Value} {dp un : Nat} {gd : Option (List Code)} {cn : Str} {cs : Scope} {L a : Addr} {ccd : Value} {cl : List (Str × Addr)} {outer : List Env} {A₀ : Around} {base h₀ : Heap} {m : Str → Option Value} {s : Shared} {Q E : Value → Shared → Prop} {xd : Addr} {vs : List Value} {nd : Nat} {ns : List Int} {full : List (Addr × Obj)} {upd : Obj → List (Addr × Obj)} {p : Int} {t : Tok}
  (B : Below A₀ base outer h₀) (F : Fr h₀ L s.heap m) (X : (hd.heap_1 w.params).In h₀) (N : News h₀ L s.heap full) (T : Top view (looseW view [Str.ofString "REACH"]) mean mg mb h₀) (hk : cs.kind = .function)
  (U : ∀ o9, Upd xd (listOf vs.toArray nd) o9 full (upd o9)) (hI : IntsAre vs ns) (hD : Deck ns) (hdp : dp + 26 < recursionLimit) (hu : un + 208 < cLine)
    (hp : Prec p)
    (hret : ∀ vs' nd' ns' h' tk', IntsAre vs' ns' → Deck ns' → Fr h₀ L h' m → ∀ x d n' e' t1 t2 t3 t4, Num p 4 60 n' e' → News h₀ L h' ((x, instObj 108 d) :: (d, dictOf (rdict w n' e' t1 t2 t3 t4) 2) :: upd (listOf vs'.toArray nd')) → (∀ p ∈ full, p.1 < d) → d < x → Q (.ref x) { s with heap := h', toks := tk' }) :
    wpAny (model PySem.Challenge.rw_pq1014_01.row.prog w) (ktrTop dp un gd cn cs L a ccd cl outer) (call (.ref 278) [.ref xd, .int p t]) Q E s :=
  c_number B F X (upd_from U N) T hk upd_far hI hD hdp hu hp fun vs' nd' ns' h' tk' i' D' F' x d n' e' t1 t2 t3 t4 hn N' l1 l2 l3 => hret vs' nd' ns' h' tk' i' D' F' x d n' e' t1 t2 t3 t4 hn (news_back U N') (upd_lt l2 l1) l3
example : True := by
  k_with "call ref" => (k_here; (with_reducible show wpAny _ _ (call (Value.ref 278) _) _ _ _); k_dflt (refine' u_number ?kB ?kF ?kX ?kN ?kT ?kk ?kU ?khI ?khD ?kd ?ku ?khp ?_; (case kB => k_asm); (case kF => k_asm); (case kX => k_asm); (case kN => k_asm); (case kT => k_asm); (case kk => first | exact rfl | assumption); (case kU => (intro o9; k_upd)); (case khI => with_reducible assumption); (case khD => with_reducible assumption); (case kd => ktr_room); (case ku => ktr_units); (case khp => with_reducible assumption)); intro vs9 nd9 ns9 h9 tk9 i9 D9 F9 x9 d9 n9 e9 ta9 tb9 tc9 td9 f9 N9 l9 l8; (have l7 := l9); (try k_lt l7); (try k_lt2 l8); (try dsimp only at N9); (try k_sweep); (try dsimp only); (try k_fold))
  trivial
local macro_rules | `(tactic| k_ne) => `(tactic| (refine neN ?_; (try dsimp only); first | (with_reducible assumption) | (with_reducible exact Ne.symm (by assumption)) | (with_reducible exact Nat.ne_of_gt (by assumption)) | (with_reducible exact Nat.ne_of_lt (by assumption)) | ((repeat (with_reducible rename _ ≠ _ => h8; clear h8)); omega)))
example : True := by
  k_with "call ref" => (k_here; (with_reducible show wpAny _ _ (call (Value.ref 278) _) _ _ _); (repeat (with_reducible rename _ ∧ _ => h8; obtain ⟨ha8, hb8⟩ := h8)); k_dflt (refine' u_number ?kB ?kF ?kX ?kN ?kT ?kk ?kU ?khI ?khD ?kd ?ku ?khp ?_; (case kB => k_asm); (case kF => k_asm); (case kX => k_asm); (case kN => k_asm); (case kT => k_asm); (case kk => first | exact rfl | assumption); (case kU => (intro o9; k_upd)); (case khI => with_reducible assumption); (case khD => with_reducible assumption); (case kd => ktr_room); (case ku => ktr_units); (case khp => with_reducible assumption)); intro vs9 nd9 ns9 h9 tk9 i9 D9 F9 x9 d9 n9 e9 ta9 tb9 tc9 td9 f9 N9 l9 l8; (have l7 := l9); (try k_lt l7); (try k_lt2 l8); (have l6 := news_lt l9 l8); (try k_lt l6); (clear l9); (repeat (with_reducible rename _ ∧ _ => h8; obtain ⟨ha8, hb8⟩ := h8)); (try dsimp only at N9); (try k_sweep); (try dsimp only); (try k_fold))
  trivial
example : True := by
  k_with "call ref" => (k_here; (with_reducible show wpAny _ _ (call (Value.ref 320) _) _ _ _); (repeat (with_reducible rename _ ∧ _ => h8; obtain ⟨ha8, hb8⟩ := h8)); k_dflt (refine' u_near ?kB ?kF ?kX ?kN ?kT ?kk ?kU ?khI ?khD ?kd ?ku ?khp ?_; (case kB => k_asm); (case kF => k_asm); (case kX => k_asm); (case kN => k_asm); (case kT => k_asm); (case kk => first | exact rfl | assumption); (case kU => (intro o9; k_upd)); (case khI => with_reducible assumption); (case khD => with_reducible assumption); (case kd => ktr_room); (case ku => ktr_units); (case khp => (first | with_reducible assumption))); intro vs9 nd9 ns9 h9 tk9 i9 D9 F9 N9 ; (try dsimp only at N9); (try k_sweep); (try dsimp only); (try k_fold))
  trivial
example : True := by
  k_with "call ref" => (k_here; (with_reducible show wpAny _ _ (call (Value.ref 327) _) _ _ _); (repeat (with_reducible rename _ ∧ _ => h8; obtain ⟨ha8, hb8⟩ := h8)); k_dflt (refine' c_order ?kB ?kF ?kX ?kN ?kT ?kk ?kd ?ku ?khx1 ?khd1 ?khx2 ?khd2 ?khx3 ?khd3 ?khp ?khn1 ?khn2 ?khn3 ?_; (case kB => k_asm); (case kF => k_asm); (case kX => k_asm); (case kN => k_asm); (case kT => k_asm); (case kk => first | exact rfl | assumption); (case kd => ktr_room); (case ku => ktr_units); (case khx1 => k_mem); (case khd1 => k_mem); (case khx2 => k_mem); (case khd2 => k_mem); (case khx3 => k_mem); (case khd3 => k_mem); (case khp => (first | assumption | omega | exact Num.neg (by assumption) | l_bnd)); (case khn1 => (first | assumption | omega | exact Num.neg (by assumption) | l_bnd)); (case khn2 => (first | assumption | omega | exact Num.neg (by assumption) | l_bnd)); (case khn3 => (first | assumption | omega | exact Num.neg (by assumption) | l_bnd))); intro h9 tk9 F9 N9; (repeat (first | (replace N9 := news_dropI N9) | (replace N9 := news_dropD N9) | (replace N9 := news_dropL N9))); (try k_sweep); (try dsimp only); (try k_fold))
  trivial
example : True := by
  k_with "binaryOp Mod int int" => (k_here; (with_reducible refine mod_int' ?kbe ?_); (case kbe => (exact pow_ne (by decide))))
  trivial
example : True := by
  k_with "call ref" => (k_here; (with_reducible show wpAny _ _ (call (Value.ref 271) _) _ _ _); k_dflt (refine' u_draw ?kB ?kF ?kX ?kN ?kT ?kk ?kU ?khI ?khD ?kd ?ku ?khm ?khm2 ?_; (case kB => k_asm); (case kF => k_asm); (case kX => k_asm); (case kN => k_asm); (case kT => k_asm); (case kk => first | exact rfl | assumption); (case kU => (intro o9; k_upd)); (case khI => with_reducible assumption); (case khD => first | with_reducible assumption | exact deck_made _); (case kd => ktr_room); (case ku => ktr_units); (case khm => (first | with_reducible assumption | decide)); (case khm2 => (first | with_reducible assumption | decide))); intro vs9 nd9 ns9 h9 tk9 i9 D9 F9 N9 r9 t9 lo9 hi9; (try (have hp9 := prec_made lo9 hi9)); (try dsimp only at N9); (try k_sweep); (try dsimp only); (try k_fold))
  trivial
example : True := by
  k_with "eval ListComp" => (k_here; lcf_look; lcg_calm; k_dflt (refine LCg.ListComp_U (F₀ := by k_asm) (by with_unfolding_all rfl) (by decide) (by rfl) (by decide) (by rfl) ?_); k_dflt lcg_toSrc)
  trivial
example : True := by
  k_with "CompSrc" => (k_here; k_dflt (refine LCg.CompSrc.range (by rfl) (by k_asm) (by k_asm) (by assumption) (by first | decide | rfl) (by first | rfl | decide) (by first | size_fits | exact Nat.le_of_ble_eq_true rfl) ?_; intro g9; lcg_lit))
  trivial
example : True := by
  k_with "CompRest" => (k_here; k_dflt (refine LCg.CompRest.succ ?_; intro v9 I9 oI9 C9 oC9 D9 m9 h9 tk9 E9 hv9 hC9 hx9 F9 N9 off9 ne9; (obtain ⟨t9, e9⟩ := hv9; subst e9); (try simp only [LCg.Off3, and_true] at off9); obtain ⟨ne1, ne2, ne3⟩ := ne9; (repeat (with_reducible rename _ ∧ _ => h8; obtain ⟨ha8, hb8⟩ := h8))))
  trivial
local macro_rules | `(tactic| k_qdec) => `(tactic| decide +kernel)

set_option maxHeartbeats 0 in
omit B F X N T hk in
theorem c_law : PySem.Challenge.rw_pq1014_01.Holds := Mine.hd (by k_go)

end
end Mine
theorem PySem.Challenge.cw_pq1014_01_holds : PySem.Challenge.rw_pq1014_01.Holds :=
  Mine.c_law
