import PyProof.Rows.All
import Wide.All
import OpenK.AllK
import Wide.FinOn
import HandS.ForMost
import HandS.Zip0
import HandS.SetFor
import HandS.Strs
import HandS.Zip
import HandS.Codes
import PyProof.ReprRoads
import HandS.IsInst
import HandS.Property
import PyProof.ReprBulk
import PyProof.EqLayable
import PySem.Challenge.RW_mintlots_k34_whole_losses_of_deals_and_w
set_option Elab.async false
set_option linter.all false
set_option maxRecDepth 100000
set_option maxHeartbeats 8000000
namespace Mint
/-! Tables of costs by rests: eased twice round each cycle is exact. -/
abbrev Tab := List (Option Int)
def relax (t : Tab) (a b : Nat) (c : Int) : Tab :=
  match t.getD a none with
  | none => t
  | some x =>
    match t.getD b none with
    | none => t.set b (some (x + c))
    | some y => if x + c < y then t.set b (some (x + c)) else t
def spin (G s : Nat) (c : Int) (start : Nat) (t : Tab) : Nat → Tab
  | 0 => t
  | i + 1 => relax (spin G s c start t i) ((start + i * s) % G) ((start + (i + 1) * s) % G) c
def easeN (G s : Nat) (c : Int) (n : Nat) (t : Tab) : Nat → Tab
  | 0 => t
  | k + 1 => spin G s c k (easeN G s c n t k) n
def eased (G s : Nat) (c : Int) (t : Tab) : Tab := easeN G s c (2 * (G / Nat.gcd s G)) t (Nat.gcd s G)

/-- the table's value at r is at most v -/
def Le (t : Tab) (r : Nat) (v : Int) : Prop := ∃ x, t.getD r none = some x ∧ x ≤ v
theorem Le.mono {t : Tab} {r : Nat} {v u : Int} (h : Le t r v) (e : v ≤ u) : Le t r u :=
  let ⟨x, h1, h2⟩ := h
  ⟨x, h1, Int.le_trans h2 e⟩
theorem lt_of_some {t : Tab} {r : Nat} {x : Int} (h : t.getD r none = some x) : r < t.length := by
  rcases Nat.lt_or_ge r t.length with q | q
  · exact q
  · rw [List.getD_eq_getElem?_getD, List.getElem?_eq_none q] at h
    cases h
theorem getD_set_same {t : Tab} {b : Nat} {o : Option Int} (h : b < t.length) : (t.set b o).getD b none = o := by
  rw [List.getD_eq_getElem?_getD, List.getElem?_set_self h]
  rfl
theorem getD_set_ne {t : Tab} {a b : Nat} {o : Option Int} (h : a ≠ b) : (t.set b o).getD a none = t.getD a none := by
  rw [List.getD_eq_getElem?_getD, List.getElem?_set_ne (Ne.symm h), ← List.getD_eq_getElem?_getD]

theorem relax_len (t : Tab) (a b : Nat) (c : Int) : (relax t a b c).length = t.length := by
  unfold relax
  split
  · rfl
  · split
    · rw [List.length_set]
    · split
      · rw [List.length_set]
      · rfl
theorem spin_len (G s : Nat) (c : Int) (start : Nat) (t : Tab) : ∀ i, (spin G s c start t i).length = t.length
  | 0 => rfl
  | i + 1 => by
    rw [spin, relax_len, spin_len G s c start t i]
theorem easeN_len (G s : Nat) (c : Int) (n : Nat) (t : Tab) : ∀ k, (easeN G s c n t k).length = t.length
  | 0 => rfl
  | k + 1 => by
    rw [easeN, spin_len, easeN_len G s c n t k]
theorem eased_len (G s : Nat) (c : Int) (t : Tab) : (eased G s c t).length = t.length := easeN_len _ _ _ _ _ _

/-- a relaxed table is nowhere greater -/
theorem relax_le {t : Tab} {a b : Nat} {c : Int} {r : Nat} {v : Int} (h : Le t r v) : Le (relax t a b c) r v := by
  unfold relax
  split
  · exact h
  · rename_i x hx
    split
    · rename_i hy
      by_cases e : r = b
      · subst e
        obtain ⟨z, hz, _⟩ := h
        rw [hy] at hz
        cases hz
      · obtain ⟨z, hz, q⟩ := h
        exact ⟨z, by rw [getD_set_ne e]; exact hz, q⟩
    · rename_i y hy
      split
      · rename_i hlt
        by_cases e : r = b
        · subst e
          obtain ⟨z, hz, q⟩ := h
          rw [hy] at hz
          cases hz
          exact ⟨x + c, getD_set_same (lt_of_some hy), by omega⟩
        · obtain ⟨z, hz, q⟩ := h
          exact ⟨z, by rw [getD_set_ne e]; exact hz, q⟩
      · exact h
/-- the edge that was relaxed holds -/
theorem relax_edge {t : Tab} {a b : Nat} {c : Int} {v : Int} (hb : b < t.length) (h : Le t a v) : Le (relax t a b c) b (v + c) := by
  obtain ⟨z, hz, q⟩ := h
  unfold relax
  rw [hz]
  dsimp only
  split
  · exact ⟨z + c, getD_set_same hb, by omega⟩
  · rename_i y hy
    split
    · exact ⟨z + c, getD_set_same hb, by omega⟩
    · exact ⟨y, hy, by omega⟩
/-- what a relaxed table holds, the old one held, or it came over the edge -/
theorem relax_sound {t : Tab} {a b : Nat} {c : Int} {r : Nat} {x : Int} (h : (relax t a b c).getD r none = some x) :
    t.getD r none = some x ∨ (r = b ∧ ∃ y, t.getD a none = some y ∧ x = y + c) := by
  unfold relax at h
  split at h
  · exact .inl h
  · rename_i z hz
    have key : (t.set b (some (z + c))).getD r none = some x → t.getD r none = some x ∨ (r = b ∧ ∃ y, t.getD a none = some y ∧ x = y + c) := by
      intro h
      by_cases e : r = b
      · subst e
        have hl : r < t.length := by
          have := lt_of_some h
          rw [List.length_set] at this
          exact this
        rw [getD_set_same hl] at h
        exact .inr ⟨rfl, z, hz, (Option.some.inj h).symm⟩
      · rw [getD_set_ne e] at h
        exact .inl h
    split at h
    · exact key h
    · split at h
      · exact key h
      · exact .inl h

section
variable {G s : Nat} {c : Int}
theorem spin_le {start : Nat} {t : Tab} {r : Nat} {v : Int} (h : Le t r v) : ∀ i, Le (spin G s c start t i) r v
  | 0 => h
  | i + 1 => relax_le (spin_le h i)
theorem easeN_le {n : Nat} {t : Tab} {r : Nat} {v : Int} (h : Le t r v) : ∀ k, Le (easeN G s c n t k) r v
  | 0 => h
  | k + 1 => spin_le (easeN_le h k) n
theorem easeN_le2 {n : Nat} {t : Tab} {r : Nat} {v : Int} {j : Nat} (h : Le (easeN G s c n t j) r v) : ∀ k, j ≤ k → Le (easeN G s c n t k) r v
  | 0, e => by
    have : j = 0 := by omega
    subst this
    exact h
  | k + 1, e => by
    rcases Nat.lt_or_ge k j with q | q
    · obtain rfl : k + 1 = j := by omega
      exact h
    · exact spin_le (easeN_le2 h k q) n
/-- along the chain of one start -/
theorem spin_chain {start : Nat} {t : Tab} (hG : 0 < G) (hl : t.length = G) {e : Nat} {v : Int} (h : Le t ((start + e * s) % G) v) :
    ∀ n d, e + d ≤ n → Le (spin G s c start t n) ((start + (e + d) * s) % G) (v + d * c)
  | 0, d, q => by
    have h1 : e = 0 := by omega
    have h2 : d = 0 := by omega
    subst h1 h2
    have : v + ((0 : Nat) : Int) * c = v := by simp
    rw [this]
    exact h
  | n + 1, d, q => by
    rcases Nat.lt_or_ge n (e + d) with z | z
    · cases d with
      | zero =>
        have : v + ((0 : Nat) : Int) * c = v := by simp
        rw [this]
        exact spin_le h (n + 1)
      | succ d =>
        have hn : n = e + d := by omega
        subst hn
        have ih := spin_chain hG hl h (e + d) d (Nat.le_refl _)
        have hb : (start + (e + d + 1) * s) % G < (spin G s c start t (e + d)).length := by
          rw [spin_len, hl]
          exact Nat.mod_lt _ hG
        have := relax_edge (c := c) hb ih
        have e1 : v + ((d + 1 : Nat) : Int) * c = v + d * c + c := by
          rw [Int.natCast_add, Int.add_mul]
          simp
          omega
        rw [e1]
        exact this
    · exact relax_le (spin_chain hG hl h n d z)

theorem spin_sound {start : Nat} {t : Tab} : ∀ (n : Nat) {r : Nat} {x : Int}, (spin G s c start t n).getD r none = some x → ∃ q k y, t.getD q none = some y ∧ (r = q ∧ k = 0 ∨ r = (q + k * s) % G) ∧ x = y + (k : Nat) * c
  | 0, r, x, h => ⟨r, 0, x, h, .inl ⟨rfl, rfl⟩, by simp⟩
  | n + 1, r, x, h => by
    rcases relax_sound h with h' | ⟨rfl, y, h', rfl⟩
    · exact spin_sound n h'
    · obtain ⟨q, k, z, h1, h2, rfl⟩ := spin_sound n h'
      refine ⟨q, k + 1, z, h1, .inr ?_, ?_⟩
      · have e0 : (start + (n + 1) * s) % G = ((start + n * s) % G + s) % G := by
          rw [Nat.mod_add_mod, Nat.succ_mul, Nat.add_assoc]
        rw [e0]
        rcases h2 with ⟨h2, rfl⟩ | h2
        · rw [h2, Nat.zero_add, Nat.one_mul]
        · rw [h2, Nat.mod_add_mod, Nat.succ_mul, Nat.add_assoc]
      · rw [Int.natCast_add, Int.add_mul]
        simp
        omega
theorem easeN_sound {n : Nat} {t : Tab} : ∀ (m : Nat) {r : Nat} {x : Int}, (easeN G s c n t m).getD r none = some x → ∃ q k y, t.getD q none = some y ∧ (r = q ∧ k = 0 ∨ r = (q + k * s) % G) ∧ x = y + (k : Nat) * c
  | 0, r, x, h => ⟨r, 0, x, h, .inl ⟨rfl, rfl⟩, by simp⟩
  | m + 1, r, x, h => by
    obtain ⟨q, k, y, h1, h2, rfl⟩ := spin_sound n h
    obtain ⟨q', k', y', g1, g2, rfl⟩ := easeN_sound m h1
    refine ⟨q', k' + k, y', g1, ?_, ?_⟩
    · rcases h2 with ⟨h2, rfl⟩ | h2
      · subst h2
        rcases g2 with ⟨g2, rfl⟩ | g2
        · exact .inl ⟨g2, rfl⟩
        · exact .inr g2
      · refine .inr ?_
        rcases g2 with ⟨g2, rfl⟩ | g2
        · rw [h2, g2, Nat.zero_add]
        · rw [h2, g2, Nat.mod_add_mod, Nat.add_mul, Nat.add_assoc]
    · rw [Int.natCast_add, Int.add_mul]
      omega
end

/-! ### every rest lies on the cycle of its rest by the divisor -/
theorem bezout (a b : Nat) : ∃ u v : Int, u * a + v * b = (Nat.gcd a b : Int) := by
  induction a, b using Nat.gcd.induction with
  | H0 n => exact ⟨0, 1, by simp⟩
  | H1 m n hm ih =>
    obtain ⟨u, v, h⟩ := ih
    refine ⟨v - u * ((n / m : Nat) : Int), u, ?_⟩
    rw [Nat.gcd_rec, ← h]
    have e : (n : Int) = ((n % m : Nat) : Int) + (m : Int) * ((n / m : Nat) : Int) := by
      rw [← Int.natCast_mul, ← Int.natCast_add, Nat.mod_add_div]
    rw [Int.sub_mul, Int.mul_assoc]
    have e2 : u * (n : Int) = u * ((n % m : Nat) : Int) + u * ((m : Int) * ((n / m : Nat) : Int)) := by
      rw [← Int.mul_add, ← e]
    rw [e2, Int.mul_comm ((n / m : Nat) : Int) (m : Int)]
    omega
/-- some multiple of s is g more than a multiple of G -/
theorem bezoutN {s G : Nat} (hG : 0 < G) : ∃ u : Nat, (u * s) % G = Nat.gcd s G % G := by
  obtain ⟨u, v, h⟩ := bezout s G
  refine ⟨(u % G).toNat, ?_⟩
  have hu : ((u % (G : Int)).toNat : Int) = u % (G : Int) := Int.toNat_of_nonneg (Int.emod_nonneg _ (by omega))
  apply Int.ofNat_inj.mp
  rw [Int.natCast_emod, Int.natCast_mul, hu, Int.natCast_emod, ← h]
  rw [Int.mul_emod, Int.emod_emod_of_dvd _ (Int.dvd_refl _), ← Int.mul_emod]
  rw [Int.add_mul_emod_self_right]
theorem on_cycle {s G q : Nat} (hG : 0 < G) (hq : q < G) : ∃ e, e < G / Nat.gcd s G ∧ (q % Nat.gcd s G + e * s) % G = q := by
  obtain ⟨u, hu⟩ := bezoutN (s := s) hG
  have hg : 0 < Nat.gcd s G := Nat.gcd_pos_of_pos_right _ hG
  have hm : 0 < G / Nat.gcd s G := Nat.div_pos (Nat.le_of_dvd hG (Nat.gcd_dvd_right _ _)) hg
  have hms : (G / Nat.gcd s G * s) % G = 0 := by
    obtain ⟨b, hb⟩ := Nat.gcd_dvd_left s G
    have hG' := Nat.div_mul_cancel (Nat.gcd_dvd_right s G)
    have : G / Nat.gcd s G * s = G * b := by
      calc G / Nat.gcd s G * s = G / Nat.gcd s G * (Nat.gcd s G * b) := by rw [← hb]
        _ = (G / Nat.gcd s G * Nat.gcd s G) * b := by rw [Nat.mul_assoc]
        _ = G * b := by rw [hG']
    rw [this, Nat.mul_mod_right]
  refine ⟨(q / Nat.gcd s G * u) % (G / Nat.gcd s G), Nat.mod_lt _ hm, ?_⟩
  have e1 : ∀ k, ((k % (G / Nat.gcd s G)) * s) % G = (k * s) % G := by
    intro k
    have := Nat.mod_add_div k (G / Nat.gcd s G)
    calc ((k % (G / Nat.gcd s G)) * s) % G = ((k % (G / Nat.gcd s G)) * s + 0) % G := by rw [Nat.add_zero]
      _ = ((k % (G / Nat.gcd s G)) * s + (G / Nat.gcd s G * s) * (k / (G / Nat.gcd s G))) % G := by
          rw [Nat.add_mod, Nat.add_mod _ ((G / Nat.gcd s G * s) * _), Nat.mul_mod (G / Nat.gcd s G * s), hms, Nat.zero_mul]
      _ = ((k % (G / Nat.gcd s G) + G / Nat.gcd s G * (k / (G / Nat.gcd s G))) * s) % G := by
          rw [Nat.add_mul, Nat.mul_assoc (G / Nat.gcd s G) s, Nat.mul_assoc (G / Nat.gcd s G) (k / (G / Nat.gcd s G)), Nat.mul_comm s]
      _ = (k * s) % G := by rw [this]
  calc (q % Nat.gcd s G + (q / Nat.gcd s G * u) % (G / Nat.gcd s G) * s) % G
      = (q % Nat.gcd s G + ((q / Nat.gcd s G * u) * s) % G) % G := by rw [← e1, Nat.add_mod_mod]
    _ = (q % Nat.gcd s G + (q / Nat.gcd s G * (u * s % G)) % G) % G := by rw [Nat.mul_assoc, Nat.mul_mod_mod]
    _ = (q % Nat.gcd s G + q / Nat.gcd s G * Nat.gcd s G) % G := by rw [hu, Nat.mul_mod_mod, Nat.add_mod_mod]
    _ = q % G := by rw [Nat.mul_comm, Nat.mod_add_div]
    _ = q := Nat.mod_eq_of_lt hq
theorem cycle_mul {s G : Nat} (hG : 0 < G) (x k : Nat) : (x + k % (G / Nat.gcd s G) * s) % G = (x + k * s) % G := by
  have hms : (G / Nat.gcd s G * s) % G = 0 := by
    obtain ⟨b, hb⟩ := Nat.gcd_dvd_left s G
    have hG' := Nat.div_mul_cancel (Nat.gcd_dvd_right s G)
    have : G / Nat.gcd s G * s = G * b := by
      calc G / Nat.gcd s G * s = G / Nat.gcd s G * (Nat.gcd s G * b) := by rw [← hb]
        _ = (G / Nat.gcd s G * Nat.gcd s G) * b := by rw [Nat.mul_assoc]
        _ = G * b := by rw [hG']
    rw [this, Nat.mul_mod_right]
  have h := Nat.mod_add_div k (G / Nat.gcd s G)
  have e : k * s = k % (G / Nat.gcd s G) * s + (G / Nat.gcd s G * s) * (k / (G / Nat.gcd s G)) := by
    calc k * s = (k % (G / Nat.gcd s G) + G / Nat.gcd s G * (k / (G / Nat.gcd s G))) * s := by rw [h]
      _ = _ := by rw [Nat.add_mul, Nat.mul_assoc (G / Nat.gcd s G) s, Nat.mul_assoc (G / Nat.gcd s G) (k / (G / Nat.gcd s G)), Nat.mul_comm s]
  rw [e, ← Nat.add_assoc, Nat.add_mod _ ((G / Nat.gcd s G * s) * _), Nat.mul_mod (G / Nat.gcd s G * s), hms, Nat.zero_mul, Nat.zero_mod, Nat.add_zero, Nat.mod_mod]

section
variable {G s : Nat} {c : Int} {t : Tab}
theorem eased_sound (hl : t.length = G) {r : Nat} {x : Int} (h : (eased G s c t).getD r none = some x) : ∃ q k y, q < G ∧ t.getD q none = some y ∧ r = (q + k * s) % G ∧ x = y + (k : Nat) * c := by
  obtain ⟨q, k, y, h1, h2, h3⟩ := easeN_sound _ h
  have hq : q < G := hl ▸ lt_of_some h1
  refine ⟨q, k, y, hq, h1, ?_, h3⟩
  rcases h2 with ⟨rfl, rfl⟩ | h2
  · rw [Nat.zero_mul, Nat.add_zero, Nat.mod_eq_of_lt hq]
  · exact h2
theorem eased_all (hG : 0 < G) (hc : 0 ≤ c) (hl : t.length = G) {q : Nat} {v : Int} (h : Le t q v) (k : Nat) : Le (eased G s c t) ((q + k * s) % G) (v + k * c) := by
  have hq : q < G := by
    obtain ⟨_, h, _⟩ := h
    exact hl ▸ lt_of_some h
  obtain ⟨e, he, hc2⟩ := on_cycle (s := s) hG hq
  have hg : 0 < Nat.gcd s G := Nat.gcd_pos_of_pos_right _ hG
  have hgG : Nat.gcd s G ≤ G := Nat.le_of_dvd hG (Nat.gcd_dvd_right _ _)
  have hm : 0 < G / Nat.gcd s G := Nat.div_pos hgG hg
  have hst : q % Nat.gcd s G < Nat.gcd s G := Nat.mod_lt _ hg
  have hk : k % (G / Nat.gcd s G) < G / Nat.gcd s G := Nat.mod_lt _ hm
  have h0 : Le (easeN G s c (2 * (G / Nat.gcd s G)) t (q % Nat.gcd s G)) ((q % Nat.gcd s G + e * s) % G) v := by
    rw [hc2]
    exact easeN_le h _
  have h1 : Le (easeN G s c (2 * (G / Nat.gcd s G)) t (q % Nat.gcd s G + 1)) ((q % Nat.gcd s G + (e + k % (G / Nat.gcd s G)) * s) % G) (v + (k % (G / Nat.gcd s G) : Nat) * c) :=
    spin_chain hG (by rw [easeN_len, hl]) h0 (2 * (G / Nat.gcd s G)) (k % (G / Nat.gcd s G)) (by omega)
  have h2 := easeN_le2 h1 (Nat.gcd s G) (by omega)
  have e2 : (q % Nat.gcd s G + (e + k % (G / Nat.gcd s G)) * s) % G = (q + k * s) % G := by
    rw [Nat.add_mul, ← Nat.add_assoc, Nat.add_mod, hc2, Nat.add_mod_mod, cycle_mul hG]
  rw [e2] at h2
  refine h2.mono ?_
  have : ((k % (G / Nat.gcd s G) : Nat) : Int) * c ≤ (k : Int) * c := Int.mul_le_mul_of_nonneg_right (Int.ofNat_le.mpr (Nat.mod_le _ _)) hc
  omega
/-- the table is closed under a step -/
def Closed (G : Nat) (t : Tab) (s : Nat) (c : Int) : Prop := ∀ r v, Le t r v → Le t ((r + s) % G) (v + c)
theorem eased_closed (hG : 0 < G) (hc : 0 ≤ c) (hl : t.length = G) : Closed G (eased G s c t) s c := by
  intro r v ⟨x, hx, hv⟩
  obtain ⟨q, k, y, hq, h1, h2, h3⟩ := eased_sound hl hx
  have h := eased_all (s := s) hG hc hl ⟨y, h1, Int.le_refl y⟩ (k + 1)
  have e : (q + (k + 1) * s) % G = (r + s) % G := by
    rw [h2, Nat.mod_add_mod, Nat.succ_mul, Nat.add_assoc]
  rw [e] at h
  refine h.mono ?_
  rw [Int.natCast_add, Int.add_mul]
  simp
  omega
theorem eased_keeps (hG : 0 < G) (hc : 0 ≤ c) (hl : t.length = G) {s' : Nat} {c' : Int} (hC : Closed G t s' c') : Closed G (eased G s c t) s' c' := by
  intro r v ⟨x, hx, hv⟩
  obtain ⟨q, k, y, hq, h1, h2, h3⟩ := eased_sound hl hx
  have h := eased_all (s := s) hG hc hl (hC q y ⟨y, h1, Int.le_refl y⟩) k
  have e : ((q + s') % G + k * s) % G = (r + s') % G := by
    rw [h2, Nat.mod_add_mod, Nat.mod_add_mod, Nat.add_assoc, Nat.add_comm s', Nat.add_assoc]
  rw [e] at h
  exact h.mono (by omega)
theorem eased_le (hG : 0 < G) (hc : 0 ≤ c) (hl : t.length = G) {r : Nat} {v : Int} (h : Le t r v) : Le (eased G s c t) r v := by
  have := eased_all (s := s) hG hc hl h 0
  have hr : r < G := by
    obtain ⟨_, h, _⟩ := h
    exact hl ▸ lt_of_some h
  rw [Nat.zero_mul, Nat.add_zero, Nat.mod_eq_of_lt hr] at this
  simpa using this
end
end Mint

namespace Mint
/-! The table of least losses of deals: closed under all steps, and each value is that of a deal. -/
abbrev Steps := List (Nat × Int)
def easeAll (G : Nat) : Steps → Tab → Tab
  | [], t => t
  | (s, c) :: r, t => easeAll G r (eased G s c t)
def first (G : Nat) : Tab := some 0 :: List.replicate (G - 1) none
/-- the steps of a lot: C the coins but the greatest one -/
def stepsOf (G : Nat) (C : List Nat) : Steps := C.map (fun c : Nat => ((c, (G : Int) - (c : Int)) : Nat × Int)) ++ C.map (fun c : Nat => ((G - c, (G : Int) + (c : Int)) : Nat × Int))
def table (G : Nat) (C : List Nat) : Tab := easeAll G (stepsOf G C) (first G)

theorem easeAll_len (G : Nat) : ∀ (S : Steps) (t : Tab), (easeAll G S t).length = t.length
  | [], t => rfl
  | (s, c) :: r, t => by
    rw [easeAll, easeAll_len G r, eased_len]
theorem first_len {G : Nat} (hG : 0 < G) : (first G).length = G := by
  unfold first
  rw [List.length_cons, List.length_replicate]
  omega
theorem table_len {G : Nat} (hG : 0 < G) (C : List Nat) : (table G C).length = G := by
  unfold table
  rw [easeAll_len, first_len hG]
theorem easeAll_keeps {G : Nat} (hG : 0 < G) {s' : Nat} {c' : Int} : ∀ (S : Steps) (t : Tab), (∀ p ∈ S, 0 ≤ p.2) → t.length = G → Closed G t s' c' → Closed G (easeAll G S t) s' c'
  | [], t, _, _, h => h
  | (s, c) :: r, t, hS, hl, h => by
    have hc : 0 ≤ c := hS (s, c) List.mem_cons_self
    exact easeAll_keeps hG r _ (fun p hp => hS p (List.mem_cons_of_mem _ hp)) (by rw [eased_len, hl]) (eased_keeps hG hc hl h)
theorem easeAll_closed {G : Nat} (hG : 0 < G) : ∀ (S : Steps) (t : Tab), (∀ p ∈ S, 0 ≤ p.2) → t.length = G → ∀ p ∈ S, Closed G (easeAll G S t) p.1 p.2
  | [], t, _, _, p, hp => nomatch hp
  | (s, c) :: r, t, hS, hl, p, hp => by
    have hc : 0 ≤ c := hS (s, c) List.mem_cons_self
    have hr : ∀ p ∈ r, 0 ≤ p.2 := fun p hp => hS p (List.mem_cons_of_mem _ hp)
    rcases List.mem_cons.1 hp with rfl | hp
    · exact easeAll_keeps hG r _ hr (by rw [eased_len, hl]) (eased_closed hG hc hl)
    · exact easeAll_closed hG r _ hr (by rw [eased_len, hl]) p hp
theorem easeAll_le {G : Nat} (hG : 0 < G) {q : Nat} {v : Int} : ∀ (S : Steps) (t : Tab), (∀ p ∈ S, 0 ≤ p.2) → t.length = G → Le t q v → Le (easeAll G S t) q v
  | [], t, _, _, h => h
  | (s, c) :: r, t, hS, hl, h => by
    have hc : 0 ≤ c := hS (s, c) List.mem_cons_self
    exact easeAll_le hG r _ (fun p hp => hS p (List.mem_cons_of_mem _ hp)) (by rw [eased_len, hl]) (eased_le hG hc hl h)
theorem first_zero (G : Nat) : Le (first G) 0 0 := ⟨0, rfl, Int.le_refl 0⟩
theorem first_some {G r : Nat} {x : Int} (h : (first G).getD r none = some x) : r = 0 ∧ x = 0 := by
  cases r with
  | zero =>
    have h' : some (0 : Int) = some x := h
    cases h'
    exact ⟨rfl, rfl⟩
  | succ r =>
    have h' : (List.replicate (G - 1) (none : Option Int)).getD r none = some x := h
    rw [List.getD_eq_getElem?_getD, List.getElem?_replicate] at h'
    split at h' <;> cases h'

/-- lots: coins but the greatest one are from 1 to G - 1 -/
structure Small (G : Nat) (C : List Nat) : Prop where
  pos : 0 < G
  lt : ∀ c ∈ C, c < G
theorem steps_nonneg {G : Nat} {C : List Nat} (h : Small G C) : ∀ p ∈ stepsOf G C, 0 ≤ p.2 := by
  intro p hp
  rcases List.mem_append.1 hp with hp | hp
  · obtain ⟨c, hc, rfl⟩ := List.mem_map.1 hp
    have := h.lt c hc
    show (0 : Int) ≤ (G : Int) - c
    omega
  · obtain ⟨c, hc, rfl⟩ := List.mem_map.1 hp
    show (0 : Int) ≤ (G : Int) + c
    omega
theorem table_zero {G : Nat} {C : List Nat} (h : Small G C) : Le (table G C) 0 0 :=
  easeAll_le h.pos _ _ (steps_nonneg h) (first_len h.pos) (first_zero G)

/-- the rest of a price -/
def rest (G : Nat) (p : Int) : Nat := (p % (G : Int)).toNat
theorem rest_cast {G : Nat} (hG : 0 < G) (p : Int) : ((rest G p : Nat) : Int) = p % (G : Int) := Int.toNat_of_nonneg (Int.emod_nonneg _ (by omega))
theorem rest_lt {G : Nat} (hG : 0 < G) (p : Int) : rest G p < G := by
  have := rest_cast hG p
  have h2 := Int.emod_lt_of_pos p (show (0 : Int) < G by omega)
  omega
theorem rest_add {G : Nat} (hG : 0 < G) (p : Int) (c : Nat) : rest G (p + c) = (rest G p + c) % G := by
  apply Int.ofNat_inj.mp
  rw [rest_cast hG, Int.natCast_emod, Int.natCast_add, rest_cast hG, Int.emod_add_emod]
theorem rest_sub {G : Nat} (hG : 0 < G) (p : Int) {c : Nat} (hc : c ≤ G) : rest G (p - c) = (rest G p + (G - c)) % G := by
  rw [← rest_add hG]
  unfold rest
  have : p + ((G - c : Nat) : Int) = (p - c) + G := by omega
  rw [this, Int.add_emod_right]
/-- no deal loses less -/
theorem table_add {G : Nat} {C : List Nat} (h : Small G C) {p d : Int} (hp : Le (table G C) (rest G p) (G * d - p)) {c : Nat} (hc : c ∈ C ∨ c = G) : Le (table G C) (rest G (p + c)) (G * (d + 1) - (p + c)) := by
  rcases hc with hc | rfl
  · have := easeAll_closed h.pos _ _ (steps_nonneg h) (first_len h.pos) (c, (G : Int) - c) (List.mem_append_left _ (List.mem_map.mpr ⟨c, hc, rfl⟩)) _ _ hp
    rw [rest_add h.pos]
    refine Le.mono this ?_
    rw [Int.mul_add]
    simp
    omega
  · have e : rest c (p + c) = rest c p := by
      unfold rest
      rw [Int.add_emod_right]
    rw [e]
    refine hp.mono ?_
    rw [Int.mul_add]
    simp
    omega
theorem table_sub {G : Nat} {C : List Nat} (h : Small G C) {p d : Int} (hp : Le (table G C) (rest G p) (G * d - p)) {c : Nat} (hc : c ∈ C ∨ c = G) : Le (table G C) (rest G (p - c)) (G * (d + 1) - (p - c)) := by
  rcases hc with hc | rfl
  · have := easeAll_closed h.pos _ _ (steps_nonneg h) (first_len h.pos) (G - c, (G : Int) + c) (List.mem_append_right _ (List.mem_map.mpr ⟨c, hc, rfl⟩)) _ _ hp
    rw [rest_sub h.pos _ (Nat.le_of_lt (h.lt c hc))]
    refine Le.mono this ?_
    rw [Int.mul_add]
    simp
    omega
  · have e : rest c (p - c) = rest c p := by
      unfold rest
      rw [Int.sub_emod_right]
    rw [e]
    refine hp.mono ?_
    rw [Int.mul_add]
    simp
    omega

/-! ### deals: the coins put down one by one -/
def Moves (C : List Nat) (l : List Int) : Prop := ∀ m ∈ l, ∃ c ∈ C, m = (c : Int) ∨ m = -(c : Int)
def Deal (G : Nat) (C : List Nat) (r : Nat) (x : Int) : Prop := ∃ l, Moves C l ∧ rest G l.sum = r ∧ (G : Int) * l.length - l.sum = x
theorem rest_zero (G : Nat) : rest G 0 = 0 := by
  unfold rest
  rw [Int.zero_emod]
  rfl
theorem Moves.append {C : List Nat} {l k : List Int} (h : Moves C l) (h' : Moves C k) : Moves C (l ++ k) := fun m hm => by
  rcases List.mem_append.1 hm with hm | hm
  · exact h m hm
  · exact h' m hm
theorem sum_replicate (k : Nat) (m : Int) : (List.replicate k m).sum = k * m := by
  induction k with
  | zero => simp
  | succ k ih =>
    rw [List.replicate_succ, List.sum_cons, ih, Int.natCast_add, Int.add_mul]
    simp
    omega
theorem rest_many {G : Nat} (hG : 0 < G) (p : Int) (s k : Nat) : rest G (p + (k : Int) * s) = (rest G p + k * s) % G := by
  rw [← Int.natCast_mul, rest_add hG]
theorem rest_many_sub {G : Nat} (hG : 0 < G) (p : Int) {c : Nat} (hc : c ≤ G) (k : Nat) : rest G (p - (k : Int) * c) = (rest G p + k * (G - c)) % G := by
  rw [← rest_many hG]
  unfold rest
  have : p + (k : Int) * ((G - c : Nat) : Int) = (p - (k : Int) * c) + G * k := by
    rw [Int.ofNat_sub hc, Int.mul_sub, Int.mul_comm (k : Int) G]
    omega
  rw [this, Int.add_mul_emod_self_left]
theorem deal_step {G : Nat} {C : List Nat} (h : Small G C) {q : Nat} {y : Int} (hd : Deal G C q y) {p : Nat × Int} (hp : p ∈ stepsOf G C) (k : Nat) : Deal G C ((q + k * p.1) % G) (y + (k : Nat) * p.2) := by
  obtain ⟨l, h1, h2, h3⟩ := hd
  rcases List.mem_append.1 hp with hp | hp
  · obtain ⟨c, hc, rfl⟩ := List.mem_map.1 hp
    refine ⟨l ++ List.replicate k (c : Int), h1.append fun m hm => ⟨c, hc, .inl (List.eq_of_mem_replicate hm)⟩, ?_, ?_⟩
    · rw [List.sum_append, sum_replicate, rest_many h.pos, h2]
    · rw [List.sum_append, sum_replicate, List.length_append, List.length_replicate, ← h3, Int.natCast_add, Int.mul_add, Int.mul_sub, Int.mul_comm (k : Int) (G : Int)]
      omega
  · obtain ⟨c, hc, rfl⟩ := List.mem_map.1 hp
    refine ⟨l ++ List.replicate k (-(c : Int)), h1.append fun m hm => ⟨c, hc, .inr (List.eq_of_mem_replicate hm)⟩, ?_, ?_⟩
    · rw [List.sum_append, sum_replicate, Int.mul_neg, ← Int.sub_eq_add_neg, rest_many_sub h.pos _ (Nat.le_of_lt (h.lt c hc)), h2]
    · rw [List.sum_append, sum_replicate, List.length_append, List.length_replicate, ← h3, Int.natCast_add, Int.mul_add, Int.mul_add, Int.mul_comm (k : Int) (G : Int), Int.mul_neg]
      omega
theorem easeAll_deal {G : Nat} {C : List Nat} (h : Small G C) : ∀ (S : Steps) (t : Tab), (∀ p ∈ S, p ∈ stepsOf G C) → t.length = G → (∀ r x, t.getD r none = some x → Deal G C r x) → ∀ r x, (easeAll G S t).getD r none = some x → Deal G C r x
  | [], t, _, _, ht => ht
  | (s, c) :: r, t, hS, hl, ht => by
    refine easeAll_deal h r _ (fun p hp => hS p (List.mem_cons_of_mem _ hp)) (by rw [eased_len, hl]) fun r x hx => ?_
    obtain ⟨q, k, y, hq, h1, h2, h3⟩ := eased_sound hl hx
    rw [h2, h3]
    exact deal_step h (ht q y h1) (hS (s, c) List.mem_cons_self) k
theorem table_deal {G : Nat} {C : List Nat} (h : Small G C) : ∀ r x, (table G C).getD r none = some x → Deal G C r x := by
  refine easeAll_deal h _ _ (fun _ hp => hp) (first_len h.pos) fun r x hx => ?_
  obtain ⟨rfl, rfl⟩ := first_some hx
  exact ⟨[], fun _ hm => (nomatch hm), rest_zero G, by simp⟩

/-! ### among G coins some come to a multiple of G -/
theorem pigeon : ∀ (n : Nat) (f : Nat → Nat), (∀ i, i ≤ n → f i < n) → ∃ i j, i < j ∧ j ≤ n ∧ f i = f j
  | 0, f, h => absurd (h 0 (Nat.le_refl 0)) (Nat.not_lt_zero _)
  | n + 1, f, h => by
    by_cases hx : ∃ i, i ≤ n ∧ f i = f (n + 1)
    · obtain ⟨i, h1, h2⟩ := hx
      exact ⟨i, n + 1, by omega, Nat.le_refl _, h2⟩
    · have hne : ∀ i, i ≤ n → f i ≠ f (n + 1) := fun i hi e => hx ⟨i, hi, e⟩
      have hlast := h (n + 1) (Nat.le_refl _)
      obtain ⟨i, j, h1, h2, h3⟩ := pigeon n (fun i => if f i = n then f (n + 1) else f i) fun i hi => by
        have := h i (by omega)
        have := hne i hi
        split <;> omega
      have hi := hne i (by omega)
      have hj := hne j h2
      refine ⟨i, j, h1, by omega, ?_⟩
      split at h3 <;> split at h3 <;> omega
theorem Moves.le {G : Nat} {C : List Nat} (h : Small G C) {l : List Int} (hl : Moves C l) : l.sum ≤ (G : Int) * l.length := by
  induction l with
  | nil => simp
  | cons m l ih =>
    have := ih fun x hx => hl x (List.mem_cons_of_mem _ hx)
    obtain ⟨c, hc, hm⟩ := hl m List.mem_cons_self
    have := h.lt c hc
    rw [List.sum_cons, List.length_cons, Int.natCast_add, Int.mul_add]
    simp
    omega
theorem Deal.short {G : Nat} {C : List Nat} (h : Small G C) : ∀ (n : Nat) (l : List Int), l.length ≤ n → Moves C l →
    ∃ k, Moves C k ∧ k.length < G ∧ rest G k.sum = rest G l.sum ∧ (G : Int) * k.length - k.sum ≤ (G : Int) * l.length - l.sum
  | 0, l, hn, hl => ⟨l, hl, by have := h.pos; omega, rfl, Int.le_refl _⟩
  | n + 1, l, hn, hl => by
    rcases Nat.lt_or_ge l.length G with q | q
    · exact ⟨l, hl, q, rfl, Int.le_refl _⟩
    · obtain ⟨i, j, h1, h2, h3⟩ := pigeon G (fun i => rest G (l.take i).sum) fun i _ => rest_lt h.pos _
      have e1 : l = l.take i ++ ((l.drop i).take (j - i) ++ l.drop j) := by
        have a : (l.drop i).take (j - i) ++ (l.drop i).drop (j - i) = l.drop i := List.take_append_drop _ _
        rw [List.drop_drop, show i + (j - i) = j by omega] at a
        rw [a, List.take_append_drop]
      have e2 : l.take j = l.take i ++ (l.drop i).take (j - i) := by
        have := List.take_add (l := l) (i := i) (j := j - i)
        rw [show i + (j - i) = j by omega] at this
        exact this
      have hseg : Moves C ((l.drop i).take (j - i)) := fun m hm => hl m (List.mem_of_mem_drop (List.mem_of_mem_take hm))
      have hsl := hseg.le h
      have hlen : ((l.drop i).take (j - i)).length = j - i := by
        rw [List.length_take]
        rw [List.length_drop]
        omega
      have hL : l.length = (l.take i).length + ((l.drop i).take (j - i)).length + (l.drop j).length := by
        rw [hlen, List.length_take, List.length_drop]
        omega
      have hS : l.sum = (l.take i).sum + ((l.drop i).take (j - i)).sum + (l.drop j).sum := by
        calc l.sum = (l.take i ++ ((l.drop i).take (j - i) ++ l.drop j)).sum := by rw [← e1]
          _ = _ := by rw [List.sum_append, List.sum_append, Int.add_assoc]
      have hz : (((l.drop i).take (j - i)).sum) % (G : Int) = 0 := by
        have a := rest_cast h.pos (l.take i).sum
        have b := rest_cast h.pos (l.take j).sum
        have h3' : rest G (l.take i).sum = rest G (l.take j).sum := h3
        rw [← h3', a, e2, List.sum_append] at b
        have := Int.emod_emod_of_dvd ((l.take i).sum + ((l.drop i).take (j - i)).sum) (Int.dvd_refl (G : Int))
        have c : ((l.take i).sum + ((l.drop i).take (j - i)).sum - (l.take i).sum) % (G : Int) = 0 := by
          rw [Int.sub_emod, ← b, Int.sub_self, Int.zero_emod]
        rw [Int.add_comm, Int.add_sub_cancel] at c
        exact c
      have hm : Moves C (l.take i ++ l.drop j) := Moves.append (fun m hm => hl m (List.mem_of_mem_take hm)) fun m hm => hl m (List.mem_of_mem_drop hm)
      obtain ⟨k, k1, k2, k3, k4⟩ := Deal.short h n (l.take i ++ l.drop j) (by rw [List.length_append]; omega) hm
      refine ⟨k, k1, k2, ?_, ?_⟩
      · rw [k3]
        unfold rest
        have : l.sum = (l.take i ++ l.drop j).sum + ((l.drop i).take (j - i)).sum := by
          rw [hS, List.sum_append]
          omega
        rw [this, Int.add_emod, hz, Int.add_zero, Int.emod_emod_of_dvd _ (Int.dvd_refl _)]
      · refine Int.le_trans k4 ?_
        rw [List.length_append, List.sum_append, hS, hL]
        simp only [Int.natCast_add, Int.mul_add] at hsl ⊢
        omega
theorem Moves.bound {C : List Nat} {D : Nat} (hC : ∀ c ∈ C, c ≤ D) {l : List Int} (hl : Moves C l) : -((l.length : Int) * D) ≤ l.sum ∧ l.sum ≤ (l.length : Int) * D := by
  induction l with
  | nil => simp
  | cons m l ih =>
    obtain ⟨a, b⟩ := ih fun x hx => hl x (List.mem_cons_of_mem _ hx)
    obtain ⟨c, hc, hm⟩ := hl m List.mem_cons_self
    have := hC c hc
    rw [List.sum_cons, List.length_cons, Int.natCast_add, Int.add_mul]
    simp
    omega
end Mint

namespace Mint
/-! The law's own search: what it finds, and its least losses. -/
abbrev Found := List (Int × Int)
def look : Found → Int → Option Int
  | [], _ => none
  | (k, v) :: r, p => if k = p then some v else look r p
def put (top turn : Int) (st : Found × List Int) (q : Int) : Found × List Int :=
  if (-top ≤ q ∧ q ≤ top) ∧ look st.1 q = none then (st.1 ++ [(q, turn)], st.2 ++ [q]) else st
def near (L : List Nat) (p : Int) : List Int := L.map (fun c : Nat => p + (c : Int)) ++ L.map (fun c : Nat => p - (c : Int))
def wave (L : List Nat) (top turn : Int) (F : Found) (edge : List Int) : Found × List Int :=
  edge.foldl (fun st p => (near L p).foldl (put top turn) st) (F, [])
def waves (L : List Nat) (top : Int) : Nat → Found × List Int
  | 0 => ([(0, 0)], [0])
  | n + 1 => wave L top ((n : Int) + 1) (waves L top n).1 (waves L top n).2

theorem look_some : ∀ {F : Found} {p v : Int}, look F p = some v → (p, v) ∈ F
  | (k, u) :: r, p, v, h => by
    unfold look at h
    split at h
    · rename_i e
      cases h
      rw [e]
      exact List.mem_cons_self
    · exact List.mem_cons_of_mem _ (look_some h)
theorem look_none : ∀ {F : Found} {p : Int}, look F p = none → p ∉ F.map (·.1)
  | [], p, _ => by simp
  | (k, u) :: r, p, h => by
    unfold look at h
    split at h
    · cases h
    · rename_i e
      rw [List.map_cons]
      intro hm
      rcases List.mem_cons.1 hm with hm | hm
      · exact e hm.symm
      · exact look_none h hm
theorem look_mem : ∀ {F : Found} {p v : Int}, (F.map (·.1)).Nodup → (p, v) ∈ F → look F p = some v
  | (k, u) :: r, p, v, hn, h => by
    rw [List.map_cons] at hn
    rw [List.nodup_cons] at hn
    unfold look
    rcases List.mem_cons.1 h with e | h
    · cases e
      rw [if_pos rfl]
    · rw [if_neg]
      · exact look_mem hn.2 h
      · rintro rfl
        exact hn.1 (List.mem_map.mpr ⟨_, h, rfl⟩)

/-- what a run of puts adds -/
theorem puts (top turn : Int) : ∀ (qs : List Int) (F : Found) (fr : List Int), (F.map (·.1)).Nodup →
    ∃ new : List Int, qs.foldl (put top turn) (F, fr) = (F ++ new.map (fun q => (q, turn)), fr ++ new) ∧ ((F ++ new.map (fun q => (q, turn))).map (·.1)).Nodup ∧
      (∀ q ∈ new, q ∈ qs ∧ -top ≤ q ∧ q ≤ top) ∧ ∀ q ∈ qs, -top ≤ q → q ≤ top → q ∈ (F ++ new.map (fun q => (q, turn))).map (·.1)
  | [], F, fr, hn => ⟨[], by simp, by simpa using hn, by simp, by simp⟩
  | q :: qs, F, fr, hn => by
    rw [List.foldl_cons]
    by_cases hc : (-top ≤ q ∧ q ≤ top) ∧ look F q = none
    · have e : put top turn (F, fr) q = (F ++ [(q, turn)], fr ++ [q]) := if_pos hc
      rw [e]
      have hn' : ((F ++ [(q, turn)]).map (·.1)).Nodup := by
        rw [List.map_append]
        rw [List.nodup_append]
        refine ⟨hn, by simp, fun a ha b hb => ?_⟩
        have hb' : b = q := by simpa using hb
        subst hb'
        rintro rfl
        exact look_none hc.2 ha
      obtain ⟨new, h1, h2, h3, h4⟩ := puts top turn qs _ (fr ++ [q]) hn'
      have eF : F ++ [(q, turn)] ++ new.map (fun q => (q, turn)) = F ++ (q :: new).map (fun q => (q, turn)) := by simp
      rw [eF] at h1 h2 h4
      refine ⟨q :: new, by rw [h1]; simp, h2, fun p hp => ?_, fun p hp a b => ?_⟩
      · rcases List.mem_cons.1 hp with rfl | hp
        · exact ⟨List.mem_cons_self, hc.1⟩
        · exact ⟨List.mem_cons_of_mem _ (h3 p hp).1, (h3 p hp).2⟩
      · rcases List.mem_cons.1 hp with rfl | hp
        · rw [List.map_append]
          refine List.mem_append_right _ ?_
          simp
        · exact h4 p hp a b
    · have e : put top turn (F, fr) q = (F, fr) := if_neg hc
      rw [e]
      obtain ⟨new, h1, h2, h3, h4⟩ := puts top turn qs F fr hn
      refine ⟨new, h1, h2, fun p hp => ⟨List.mem_cons_of_mem _ (h3 p hp).1, (h3 p hp).2⟩, fun p hp a b => ?_⟩
      rcases List.mem_cons.1 hp with rfl | hp
      · rw [List.map_append]
        refine List.mem_append_left _ ?_
        cases hl : look F p with
        | none => exact absurd ⟨⟨a, b⟩, hl⟩ hc
        | some v => exact List.mem_map.mpr ⟨_, look_some hl, rfl⟩
      · exact h4 p hp a b
theorem wave_flat (L : List Nat) (top turn : Int) (edge : List Int) : ∀ st : Found × List Int,
    edge.foldl (fun st p => (near L p).foldl (put top turn) st) st = (edge.flatMap (near L)).foldl (put top turn) st := by
  induction edge with
  | nil => intro st; rfl
  | cons p r ih =>
    intro st
    rw [List.foldl_cons, List.flatMap_cons, List.foldl_append, ih]

structure Ok (L : List Nat) (top : Int) (n : Nat) (F : Found) (edge : List Int) : Prop where
  nd : (F.map (·.1)).Nodup
  rng : ∀ p v, (p, v) ∈ F → -top ≤ p ∧ p ≤ top ∧ 0 ≤ v ∧ v ≤ n
  edg : ∀ p, p ∈ edge ↔ (p, (n : Int)) ∈ F
  next : ∀ p v, (p, v) ∈ F → v < n → ∀ q ∈ near L p, -top ≤ q → q ≤ top → ∃ u, (q, u) ∈ F ∧ u ≤ v + 1
  from0 : ∀ p v, (p, v) ∈ F → (p = 0 ∧ v = 0) ∨ ∃ p' , (p', v - 1) ∈ F ∧ p ∈ near L p'
  zero : (0, 0) ∈ F
theorem waves_ok (L : List Nat) {top : Int} (ht : 0 ≤ top) : ∀ n, Ok L top n (waves L top n).1 (waves L top n).2
  | 0 => by
    refine ⟨by simp [waves], ?_, ?_, ?_, ?_, List.mem_cons_self⟩
    · intro p v h
      have h' : (p, v) = ((0 : Int), (0 : Int)) := List.mem_singleton.mp h
      cases h'
      refine ⟨by omega, by omega, Int.le_refl _, Int.le_refl _⟩
    · intro p
      show p ∈ [(0 : Int)] ↔ (p, ((0 : Nat) : Int)) ∈ [((0 : Int), (0 : Int))]
      rw [List.mem_singleton, List.mem_singleton]
      constructor
      · rintro rfl
        rfl
      · intro h
        cases h
        rfl
    · intro p v h hv
      have h' : (p, v) = ((0 : Int), (0 : Int)) := List.mem_singleton.mp h
      cases h'
      exact absurd hv (by decide)
    · intro p v h
      have h' : (p, v) = ((0 : Int), (0 : Int)) := List.mem_singleton.mp h
      cases h'
      exact .inl ⟨rfl, rfl⟩
  | n + 1 => by
    have ih := waves_ok L ht n
    have hw : waves L top (n + 1) = ((waves L top n).2.flatMap (near L)).foldl (put top ((n : Int) + 1)) ((waves L top n).1, []) := wave_flat L top _ _ _
    obtain ⟨new, h1, h2, h3, h4⟩ := puts top ((n : Int) + 1) ((waves L top n).2.flatMap (near L)) (waves L top n).1 [] ih.nd
    rw [h1] at hw
    rw [hw]
    generalize (waves L top n).1 = F at *
    generalize (waves L top n).2 = edge at *
    have hsp : ∀ p v, (p, v) ∈ F ++ new.map (fun q => (q, (n : Int) + 1)) → (p, v) ∈ F ∨ (p ∈ new ∧ v = (n : Int) + 1) := fun p v h => by
      rcases List.mem_append.1 h with h | h
      · exact .inl h
      · obtain ⟨q, hq, e⟩ := List.mem_map.1 h
        cases e
        exact .inr ⟨hq, rfl⟩
    have hin : ∀ p, p ∈ new → (p, (n : Int) + 1) ∈ F ++ new.map (fun q => (q, (n : Int) + 1)) := fun p h => List.mem_append_right _ (List.mem_map.mpr ⟨p, h, rfl⟩)
    refine ⟨h2, ?_, ?_, ?_, ?_, List.mem_append_left _ ih.zero⟩
    · intro p v h
      rcases hsp p v h with h | ⟨h5, rfl⟩
      · have := ih.rng p v h
        exact ⟨this.1, this.2.1, this.2.2.1, by omega⟩
      · exact ⟨(h3 p h5).2.1, (h3 p h5).2.2, by omega, by omega⟩
    · intro p
      show p ∈ [] ++ new ↔ _
      rw [List.nil_append]
      have e : (((n + 1 : Nat) : Nat) : Int) = (n : Int) + 1 := by omega
      rw [e]
      constructor
      · exact hin p
      · intro h
        rcases hsp p _ h with h | ⟨h, _⟩
        · have := ih.rng p _ h
          omega
        · exact h
    · intro p v h hv q hq a b
      rcases hsp p v h with h | ⟨h, rfl⟩
      · by_cases hvn : v < n
        · obtain ⟨u, hu, hu2⟩ := ih.next p v h hvn q hq a b
          exact ⟨u, List.mem_append_left _ hu, hu2⟩
        · have hvn : v = (n : Int) := by
            have := ih.rng p v h
            omega
          subst hvn
          have hm := h4 q (List.mem_flatMap.mpr ⟨p, (ih.edg p).mpr h, hq⟩) a b
          obtain ⟨⟨q', u⟩, hm', rfl⟩ := List.mem_map.1 hm
          refine ⟨u, hm', ?_⟩
          rcases hsp q' u hm' with h | ⟨_, rfl⟩
          · have := ih.rng q' u h
            omega
          · exact Int.le_refl _
      · omega
    · intro p v h
      rcases hsp p v h with h | ⟨h7, rfl⟩
      · rcases ih.from0 p v h with h | ⟨p', h5, h6⟩
        · exact .inl h
        · exact .inr ⟨p', List.mem_append_left _ h5, h6⟩
      · obtain ⟨p', h5, h6⟩ := List.mem_flatMap.mp (h3 p h7).1
        refine .inr ⟨p', List.mem_append_left _ ?_, h6⟩
        rw [show (n : Int) + 1 - 1 = n by omega]
        exact (ih.edg p').mp h5

/-- the keys are few -/
theorem few_keys {top : Nat} {ks : List Int} (hn : ks.Nodup) (hr : ∀ k ∈ ks, -(top : Int) ≤ k ∧ k ≤ top) : ks.length ≤ 2 * top + 1 := by
  refine Nat.le_of_not_lt fun hlt => ?_
  obtain ⟨i, j, h1, h2, h3⟩ := pigeon (2 * top + 1) (fun i => (ks.getD i 0 + top).toNat) fun i hi => by
    have hi' : ks.length > i := by omega
    have : ks.getD i 0 = ks[i] := by rw [List.getD_eq_getElem?_getD, List.getElem?_eq_getElem hi']; rfl
    have h := hr ks[i] (List.getElem_mem hi')
    show (ks.getD i 0 + top).toNat < _
    rw [this]
    omega
  have hi' : ks.length > i := by omega
  have hj' : j < ks.length := by omega
  have e1 : ks.getD i 0 = ks[i] := by rw [List.getD_eq_getElem?_getD, List.getElem?_eq_getElem hi']; rfl
  have e2 : ks.getD j 0 = ks[j] := by rw [List.getD_eq_getElem?_getD, List.getElem?_eq_getElem hj']; rfl
  have a := hr ks[i] (List.getElem_mem hi')
  have b := hr ks[j] (List.getElem_mem hj')
  have h3' : (ks.getD i 0 + top).toNat = (ks.getD j 0 + top).toNat := h3
  rw [e1, e2] at h3'
  have e : ks[i] = ks[j] := by omega
  have := (List.getElem_inj hn).mp e
  omega
theorem Ok.few {L : List Nat} {top n : Nat} {F : Found} {edge : List Int} (h : Ok L top n F edge) : F.length ≤ 2 * top + 1 := by
  have := few_keys (top := top) h.nd fun k hk => by
    obtain ⟨⟨k', v⟩, hm, rfl⟩ := List.mem_map.1 hk
    exact ⟨(h.rng k' v hm).1, (h.rng k' v hm).2.1⟩
  rwa [List.length_map] at this

/-! ### least losses by the search -/
def dueStep (G : Nat) (F : Found) (t : Tab) (p : Int) : Tab :=
  match look F p with
  | none => t
  | some d => t.set (rest G p) (some (match t.getD (rest G p) none with
    | none => (G : Int) * d - p
    | some y => if (G : Int) * d - p < y then (G : Int) * d - p else y))
/-- behind the prices from -edge on, n of them -/
def dueN (G : Nat) (F : Found) (edge : Int) : Nat → Tab
  | 0 => List.replicate G none
  | n + 1 => dueStep G F (dueN G F edge n) (-edge + n)
theorem dueStep_len (G : Nat) (F : Found) (t : Tab) (p : Int) : (dueStep G F t p).length = t.length := by
  unfold dueStep
  split
  · rfl
  · rw [List.length_set]
theorem dueN_len (G : Nat) (F : Found) (edge : Int) : ∀ n, (dueN G F edge n).length = G
  | 0 => by rw [dueN, List.length_replicate]
  | n + 1 => by rw [dueN, dueStep_len, dueN_len G F edge n]
theorem dueStep_le {G : Nat} {F : Found} {t : Tab} {p : Int} {r : Nat} {v : Int} (h : Le t r v) : Le (dueStep G F t p) r v := by
  unfold dueStep
  split
  · exact h
  · rename_i d hd
    by_cases e : r = rest G p
    · subst e
      obtain ⟨x, hx, hv⟩ := h
      refine ⟨_, getD_set_same (lt_of_some hx), ?_⟩
      rw [hx]
      dsimp only
      split <;> omega
    · obtain ⟨x, hx, hv⟩ := h
      exact ⟨x, by rw [getD_set_ne e]; exact hx, hv⟩
theorem dueStep_new {G : Nat} {F : Found} {t : Tab} {p d : Int} (hG : 0 < G) (hl : t.length = G) (hd : look F p = some d) : Le (dueStep G F t p) (rest G p) (G * d - p) := by
  unfold dueStep
  rw [hd]
  refine ⟨_, getD_set_same (by rw [hl]; exact rest_lt hG p), ?_⟩
  split
  · exact Int.le_refl _
  · split <;> omega
theorem dueN_le {G : Nat} {F : Found} {edge : Int} (hG : 0 < G) {p d : Int} (hd : look F p = some d) : ∀ n : Nat, -edge ≤ p → p < -edge + (n : Int) → Le (dueN G F edge n) (rest G p) (G * d - p)
  | 0, h1, h2 => by omega
  | n + 1, h1, h2 => by
    by_cases e : p = -edge + n
    · rw [dueN, ← e]
      exact dueStep_new hG (dueN_len G F edge n) hd
    · exact dueStep_le (dueN_le hG hd n h1 (by omega))
theorem dueN_sound {G : Nat} {F : Found} {edge : Int} (hG : 0 < G) : ∀ n r x, (dueN G F edge n).getD r none = some x → ∃ p d, look F p = some d ∧ r = rest G p ∧ x = G * d - p
  | 0, r, x, h => by
    rw [dueN, List.getD_eq_getElem?_getD, List.getElem?_replicate] at h
    split at h <;> cases h
  | n + 1, r, x, h => by
    rw [dueN] at h
    generalize -edge + (n : Int) = p at h
    unfold dueStep at h
    split at h
    · exact dueN_sound hG n r x h
    · rename_i d hd
      by_cases e : r = rest G p
      · subst e
        rw [getD_set_same (by rw [dueN_len]; exact rest_lt hG p)] at h
        have h' := (Option.some.inj h).symm
        split at h'
        · exact ⟨p, d, hd, rfl, h'⟩
        · rename_i y hy
          split at h'
          · exact ⟨p, d, hd, rfl, h'⟩
          · subst h'
            exact dueN_sound hG n _ _ hy
      · rw [getD_set_ne e] at h
        exact dueN_sound hG n r x h

/-! ### both are the same -/
/-- C: the coins but the greatest one, D: not below them; the whole lot is C ++ [G] -/
theorem same_tables {G D : Nat} {C : List Nat} (h : Small G C) (hD : ∀ c ∈ C, c ≤ D) (hC : C = [] → D = 0) :
    dueN G (waves (C ++ [G]) (((G - 1) * D + 2 * G : Nat) : Int) ((G - 1) * D + 2 * G)).1 (((G - 1) * D : Nat) : Int) (2 * ((G - 1) * D) + 1) = table G C := by
  generalize hE : (G - 1) * D = E
  have hok := waves_ok (C ++ [G]) (top := ((E + 2 * G : Nat) : Int)) (by omega) (E + 2 * G)
  generalize (waves (C ++ [G]) ((E + 2 * G : Nat) : Int) (E + 2 * G)).1 = F at *
  generalize (waves (C ++ [G]) ((E + 2 * G : Nat) : Int) (E + 2 * G)).2 = edge at *
  have hG := h.pos
  -- no found price loses less than the table says
  have low : ∀ (n : Nat) p v, v = (n : Int) → (p, v) ∈ F → Le (table G C) (rest G p) (G * v - p) := by
    have cs : ∀ c, c ∈ C ++ [G] → c ∈ C ∨ c = G := fun c hc => by
      rcases List.mem_append.1 hc with hc | hc
      · exact .inl hc
      · exact .inr (List.mem_singleton.mp hc)
    have st : ∀ p' p v, Le (table G C) (rest G p') (G * (v - 1) - p') → p ∈ near (C ++ [G]) p' → Le (table G C) (rest G p) (G * v - p) := by
      intro p' p v hp hm
      rcases List.mem_append.1 hm with hm | hm
      · obtain ⟨c, hc, rfl⟩ := List.mem_map.1 hm
        have := table_add h hp (cs c hc)
        rw [show v - 1 + 1 = v by omega] at this
        exact this
      · obtain ⟨c, hc, rfl⟩ := List.mem_map.1 hm
        have := table_sub h hp (cs c hc)
        rw [show v - 1 + 1 = v by omega] at this
        exact this
    have z : Le (table G C) (rest G 0) (G * 0 - 0) := by
      rw [rest_zero]
      simpa using table_zero h
    intro n
    induction n with
    | zero =>
      intro p v hv hm
      rcases hok.from0 p v hm with ⟨rfl, rfl⟩ | ⟨p', h5, h6⟩
      · exact z
      · have := hok.rng p' _ h5
        omega
    | succ n ih =>
      intro p v hv hm
      rcases hok.from0 p v hm with ⟨rfl, rfl⟩ | ⟨p', h5, h6⟩
      · exact z
      · exact st p' p v (ih p' (v - 1) (by omega) h5) h6
  -- each deal of few coins is found
  have found : ∀ (k : Nat) (l : List Int), l.length = k → Moves C l → k < G → ∃ v, (l.sum, v) ∈ F ∧ v ≤ k := by
    intro k
    induction k with
    | zero =>
      intro l hl _ _
      cases l with
      | nil => exact ⟨0, hok.zero, Int.le_refl _⟩
      | cons a l => simp at hl
    | succ k ih =>
      intro l hl hm hk
      cases l with
      | nil => simp at hl
      | cons a l =>
        have hl' : l.length = k := by simpa using hl
        have hml : Moves C l := fun m hm' => hm m (List.mem_cons_of_mem _ hm')
        obtain ⟨v, hv, hvk⟩ := ih l hl' hml (by omega)
        have hb := hm.bound hD
        have hb2 : (((k + 1 : Nat) : Int)) * D ≤ E := by
          rw [← hE, ← Int.natCast_mul]
          exact Int.ofNat_le.mpr (Nat.mul_le_mul_right _ (by omega))
        rw [hl] at hb
        have hn : (a :: l).sum ∈ near (C ++ [G]) l.sum := by
          rw [List.sum_cons]
          obtain ⟨c, hc, e⟩ := hm a List.mem_cons_self
          rcases e with rfl | rfl
          · exact List.mem_append_left _ (List.mem_map.mpr ⟨c, List.mem_append_left _ hc, by omega⟩)
          · exact List.mem_append_right _ (List.mem_map.mpr ⟨c, List.mem_append_left _ hc, by omega⟩)
        obtain ⟨u, hu, hu2⟩ := hok.next l.sum v hv (by omega) _ hn (by omega) (by omega)
        exact ⟨u, hu, by omega⟩
  -- place by place
  refine List.ext_getElem (by rw [dueN_len, table_len hG]) fun r h1 h2 => ?_
  have g1 : ∀ {t : Tab} (hr : r < t.length), t.getD r none = t[r] := fun {t} hr => by
    rw [List.getD_eq_getElem?_getD, List.getElem?_eq_getElem hr]
    rfl
  have le1 : ∀ x, (dueN G F E (2 * E + 1)).getD r none = some x → Le (table G C) r x := fun x hx => by
    obtain ⟨p, d, hd, rfl, rfl⟩ := dueN_sound hG _ _ _ hx
    have hm := look_some hd
    have := hok.rng p d hm
    exact low d.toNat p d (by omega) hm
  have le2 : ∀ x, (table G C).getD r none = some x → Le (dueN G F E (2 * E + 1)) r x := fun x hx => by
    obtain ⟨l, m1, m2, m3⟩ := table_deal h r x hx
    obtain ⟨k, k1, k2, k3, k4⟩ := Deal.short h l.length l (Nat.le_refl _) m1
    obtain ⟨v, hv, hvk⟩ := found k.length k rfl k1 k2
    have hb := k1.bound hD
    have hb2 : (k.length : Int) * D ≤ E := by
      rw [← hE, ← Int.natCast_mul]
      exact Int.ofNat_le.mpr (Nat.mul_le_mul_right _ (by omega))
    have := dueN_le (edge := (E : Int)) hG (look_mem hok.nd hv) (2 * E + 1) (by omega) (by omega)
    rw [k3, m2] at this
    refine this.mono ?_
    have hmul : (G : Int) * v ≤ (G : Int) * (k.length : Int) := Int.mul_le_mul_of_nonneg_left hvk (by omega)
    omega
  rw [← g1 h1, ← g1 h2]
  cases e1 : (dueN G F E (2 * E + 1)).getD r none with
  | none =>
    cases e2 : (table G C).getD r none with
    | none => rfl
    | some y =>
      obtain ⟨x, hx, _⟩ := le2 y e2
      rw [e1] at hx
      cases hx
  | some x =>
    obtain ⟨y, hy, hyx⟩ := le1 x e1
    obtain ⟨z, hz, hzy⟩ := le2 y hy
    rw [e1] at hz
    cases hz
    rw [hy]
    have : x = y := by omega
    rw [this]
end Mint

/-! enumerate over a tuple -/
namespace MkE
open PySem PySem.Spec PyProof.Rows L2
/-- draws from the iterator of a tuple -/
theorem drawsTup {prog : Program} {w : World} {A : Around} (hh : A.handled = none) (it a : Addr) (hne : a ≠ it) (items : Array Value) :
    Draws prog w A it [it, a] items.size (fun i v => items[i]? = some v) (fun i h => h.IsTupleIter it a i ∧ h.IsTuple a items) := by
  refine ⟨fun i h st => ?_, fun i h h' st hk => ?_, fun i s Q E hi st hQ => ?_, fun s Q E st hE => ?_⟩
  · obtain ⟨⟨o, ho, _⟩, _⟩ := st
    exact ⟨o, ho⟩
  · exact ⟨st.1.at fun o => hk it (by simp) o, st.2.at fun o => hk a (by simp) o⟩
  · have hx : items[i]? = some items[i] := Array.getElem?_eq_getElem hi
    exact RZ.nextOf_tuple_item st.1 st.2 hx fun h' hit sb => hQ _ h' s.toks hx ⟨hit, st.2.extBut sb.extBut hne⟩ sb
  · exact RZ.nextOf_tuple_end hh st.1 st.2 (Array.getElem?_eq_none (Nat.le_refl _)) hE
theorem newTup (a : Addr) (items : Array Value) (n : Nat) (dct : Option Addr) (sl : Array (Option Value)) :
    Meets (Builtin.«enumerate.__new__» ⟨[.type "enumerate", .ref a], []⟩) (fun _ R s => s.heap.get? a = some { cls := .type "tuple", dict := dct, data := .seq items n, slots := sl } ∧
      R (.ok (.ret (.ref (s.heap.push { cls := .type "tuple_iterator", data := .fields #[.ref a, .int 0 0] }).objs.size)))
        { s with heap := (s.heap.push { cls := .type "tuple_iterator", data := .fields #[.ref a, .int 0 0] }).push { cls := .type "enumerate", data := .fields #[.none, .bool false, .ref s.heap.objs.size, rawInt 0, .none, .none] } }) := by
  refine .of_wp fun pg wd Ar Rs st hyp => ?_
  obtain ⟨hp0, gs0, dr0, tk0, os0⟩ := st
  obtain ⟨hl, h⟩ := hyp
  have hsub := sub_enumerate
  have hT : Heap.IsTuple (Shared.heap ⟨hp0, gs0, dr0, tk0, os0⟩) a items := ⟨_, hl, rfl, n, rfl⟩
  wp_walk using AutoSeq1.wpAny_loadPart' hl
  refine wpAny_stack_any fun _ => wpAny_pure ?_
  split
  · rename_i cl _ _ _ _ _
    cases (cl == Value.type "enumerate")
    · wp_walk using AutoSeq1.wpAny_loadPart' hl, wpAny_pyIter_tuple hT
      exact ⟨_, rfl, h⟩
    · wp_walk using AutoSeq1.wpAny_loadPart' hl, wpAny_pyIter_tuple hT
      exact ⟨_, rfl, h⟩
  · wp_walk using AutoSeq1.wpAny_loadPart' hl, wpAny_pyIter_tuple hT
    exact ⟨_, rfl, h⟩
theorem callEnumTup {prog : Program} {w : World} {A : Around} {E : Value → Shared → Prop} {s : Shared} {a : Addr} {items : Array Value} {Q : Value → Shared → Prop} (hT : s.heap.IsTuple a items)
    (h : ∀ h', IsEnum h' (s.heap.objs.size + 1) s.heap.objs.size 0 .none → h'.IsTupleIter s.heap.objs.size a 0 → (∀ b o, s.heap.get? b = some o → h'.get? b = some o) → Q (.ref (s.heap.objs.size + 1)) { s with heap := h' }) :
    wpAny (model prog w) A (call (.type "enumerate") [.ref a]) Q E s := by
  obtain ⟨⟨c, dct, dt, sl⟩, hl, hc, n, hd⟩ := hT
  have hc' : c = .type "tuple" := hc
  have hd' : dt = .seq items n := hd
  subst hc' hd'
  refine callType_new F.called_enumerate (by decide) (F.typeCall_enumerate_1 _) (F.newCall_enumerate_1 _) (fun obj => F.args_object_init_2 obj _) F.entry_enumerate_new (newTup a items n dct sl) ⟨hl, ?_⟩
  generalize hI : ({ cls := .type "tuple_iterator", data := .fields #[.ref a, .int 0 0] } : Obj) = oi
  have hz : (s.heap.push oi).objs.size = s.heap.objs.size + 1 := Heap.size_push ..
  show _ ∧ _
  rw [hz]
  generalize hE : ({ cls := .type "enumerate", data := .fields #[.none, .bool false, .ref s.heap.objs.size, rawInt 0, .none, .none] } : Obj) = oe
  have he : ((s.heap.push oi).push oe).get? (s.heap.objs.size + 1) = some oe := by
    rw [← hz]
    exact Heap.get?_push_size _ (by rw [← hE]; rfl)
  have hi : ((s.heap.push oi).push oe).get? s.heap.objs.size = some oi := Heap.get?_push_of_some _ (Heap.get?_push_size _ (by rw [← hI]; rfl))
  have he2 : IsEnum ((s.heap.push oi).push oe) (s.heap.objs.size + 1) s.heap.objs.size 0 .none := by
    rw [← hE] at he ⊢
    exact he
  refine ⟨⟨oe, he, by rw [← hE]⟩, h _ he2 ⟨oi, hi, by rw [← hI], by rw [← hI]; rfl⟩ fun b o x => Heap.get?_push_of_some _ (Heap.get?_push_of_some _ x)⟩
/-- the tuple at a, each item in a new pair -/
def Itn (K : PySem.W.Frag) (a : Addr) : It where
  go := fun i H => ∃ xs x, SqT K H a xs ∧ xs[i]? = some x
  yld := fun i H v H' => ∃ T x, v = .ref T ∧ H T = none ∧ H' = upd H T (.tup [.int (i : Nat), x]) ∧ ∀ xs, SqT K H a xs → xs[i]? = some x
  stop := fun i H => ∃ xs, SqT K H a xs ∧ xs.length ≤ i
theorem turn {P : Program} {w : World} {K : PySem.W.Frag} {elts : List Expr} {kk : Nat} {tpos : Pos} (a e it : Addr) :
    Turn P w K (.Tuple elts kk tpos) (Itn K a) [e, it] e (fun i h => (∃ old, IsEnum h e it ((i : Nat) : Int) old) ∧ h.IsTupleIter it a i ∧ e ≠ it ∧ a ≠ it ∧ a ≠ e) := by
  refine ⟨by simp, fun i h st b hb => ?_, fun i h h' st k => ?_, ?_, ?_, fun A i s Q E st h => ?_⟩
  · obtain ⟨⟨old, he⟩, ⟨o, ho, hc, hd⟩, _⟩ := st
    have hb' : b = e ∨ b = it := by simpa using hb
    rcases hb' with z | z
    · rw [z]
      exact ⟨_, he, fun v q => nomatch q⟩
    · rw [z]
      exact ⟨o, ho, fun v q => by rw [hd] at q; cases q⟩
  · obtain ⟨⟨old, he⟩, hi, r⟩ := st
    exact ⟨⟨old, k e (by simp) _ he⟩, hi.at fun o q => k it (by simp) o q, r⟩
  · intro X hP hw hK hc i pins s σ H E I hf st hg
    subst hP hw hK
    obtain ⟨⟨old, he⟩, hit, hne, hai, hae⟩ := st
    obtain ⟨xs, x, hq, hx⟩ := hg
    obtain ⟨its, rv, p, _⟩ := I.tuple hq
    obtain ⟨u, hu, ru⟩ := rv.get (i := i) hx
    have hel : s.heap.objs.size > e := Heap.lt_size he
    have hil : it < s.heap.objs.size := by
      obtain ⟨_, q, _⟩ := hit
      exact Heap.lt_size q
    have hu' : its.toArray[i]? = some u := by simpa using hu
    have hsz : i < its.toArray.size := by
      obtain ⟨z, _⟩ := Array.getElem?_eq_some_iff.mp hu'
      exact z
    refine wpAny_pyNext_enum_itemD (drawsTup (A := X.A.in1) (by have := I.ok.hd hc; simpa using this) it a hai its.toArray) he ⟨hit, p⟩ hsz hne (by simp; exact ⟨hne, fun z => hae z.symm⟩) fun y h' tk hy ho st' hT hs2 hk => ?_
    have ey : y = u := Option.some.inj (hy.symm.trans hu')
    subst ey
    refine ⟨_, rfl, wpAny_letOwnedTupleGo_enum (s := { s with heap := h', toks := tk + 1 }) ho fun h'' he' sb => ?_⟩
    have hT2 : h''.get? s.heap.objs.size = some { cls := .type "tuple", data := .seq #[.int i tk, y] } := (sb.2 _ (Nat.ne_of_gt hel)).trans hT
    have new : ObjOk X.prog X.w (upd H s.heap.objs.size (.tup [.int (i : Nat), x])) h'' s.heap.objs.size (.tup [.int (i : Nat), x]) := by
      refine ⟨by show 2 ≤ sizeLine; decide, [.int i tk, y], .cons ⟨_, rfl⟩ (.cons ru .nil), _, hT2, rfl, _, rfl⟩
    have I1 : Inv X pins σ (upd H s.heap.objs.size (.tup [.int (i : Nat), x])) { s with heap := h'', toks := tk + 1 } := by
      refine I.turnedNew (ch := [e, it]) (fun b ob hb q => ?_) hf (Nat.le_refl _) new
      have n1 : b ≠ e := fun z => hb (by simp [z])
      have n2 : b ≠ it := fun z => hb (by simp [z])
      exact (sb.2 b n1).trans (hk b ob n1 n2 q)
    refine ⟨.ref s.heap.objs.size, _, I1, rfl, ⟨_, x, rfl, I.hok.fresh (Nat.le_refl _), rfl, fun ys hys => by rw [I.tuple_inj hys hq]; exact hx⟩, ⟨⟨y, ?_⟩, st'.1.at fun o q => (sb.2 it (Ne.symm hne)).trans q, hne, hai, hae⟩, fun b hb => ?_⟩
    · rw [show ((i + 1 : Nat) : Int) = (i : Int) + 1 by omega]
      exact he'
    · have hb' : s.heap.objs.size > b := by
        have z : b = e ∨ b = it := by simpa using hb
        rcases z with z | z
        · exact z ▸ hel
        · exact z ▸ hil
      refine (upd_ne (Nat.ne_of_lt hb')).trans ?_
      exact (hf b hb).1
  · intro X hP hw hK hc i pins s σ H E I hf st hg
    subst hP hw hK
    obtain ⟨⟨old, he⟩, hit, hne, hai, hae⟩ := st
    obtain ⟨xs, hq, hx⟩ := hg
    obtain ⟨its, rv, p, _⟩ := I.tuple hq
    have fit := hf it (by simp)
    have hTy : Shared.TypeIs s (.ref e) "enumerate" := ⟨_, he, rfl⟩
    have hn : its.toArray[i]? = none := by
      have := rv.length
      simp
      omega
    unfold pyNext
    refine wpAny_bind (wpAny_attempt (wpAny_callSpecial?_slot (name := Str.ofString "__next__") hTy F.slot_enumerate_next (wpAny_call_entry F.slot_enumerate_next hTy F.entry_enumerate_next ?_ (F.args_enumerate_next_1 _))))
    show wpAny _ _ (field (Value.ref e) 2 >>= _) _ _ s
    refine wpAny_bind (wpAny_field (x := .ref it) he rfl rfl ?_)
    refine wpAny_bind (RZ.nextOf_tuple_end (by have := I.ok.hd hc; simpa using this) hit p hn fun h' x he' hx' => ?_)
    obtain ⟨o, ho, hcl⟩ := hx'
    refine wpAny_bind (wpAny_isInstance (T := "StopIteration") (b := true) ⟨o, ho, hcl⟩ isSubtype_stop ?_)
    exact wpAny_pure ⟨rfl, I.turned (t' := s.toks) (fun b o hb q => he' b o hb q) fit.1 fit.2.1 fit.2.2.2.1 fit.2.2.2.2.1 fit.2.2.2.2.2⟩
  · obtain ⟨⟨_, he⟩, _⟩ := st
    exact wpAny_pyIter_enum he h
def iEnT (K : PySem.W.Frag) (ta : TA) : TI := fun σ H R => ta σ H fun vs H1 => ∃ a xs, vs = [.ref a] ∧ SqT K H1 a xs ∧ R (Itn K a) H1
theorem pi_enT {X : Cx} {e : Expr} {ta : TA} {p pos tpos : Pos} {elts : List Expr} {kk : Nat} (hg : Gl X "enumerate") (hm : X.mg "enumerate" = none) (ha : PA X [e] ta) (hs : starEach [e] X.env = [(false, eval e X.env)] := by rfl) :
    PI X (.Tuple elts kk tpos) (.Call (.Name "enumerate" p) [e] [] pos) (iEnT X.K ta) := by
  refine ⟨fun pins s σ H R I hyp => ?_⟩
  refine Call_ (ld_blt I hg hm boot_enumerate (PyProof.Rows.callWith_type1 (thn (ha.run pos pins s σ H _ I hyp) fun us s1 hap => ?_) hs rfl))
  obtain ⟨vs, H1, I1, r1, a, xs, rfl, hq, q⟩ := hap
  obtain ⟨u, rfl, ru⟩ : ∃ u, us = [u] ∧ RelV (.ref a) u := by
    cases r1 with
    | cons r rr =>
      cases rr
      exact ⟨_, rfl, r⟩
  have eu : u = Value.ref a := ru
  subst eu
  obtain ⟨its, rv, p', hz⟩ := I1.tuple hq
  have hal : a < s1.heap.objs.size := by
    obtain ⟨o, ho, _⟩ := p'
    exact Heap.lt_size ho
  refine callEnumTup p' fun h' he hit hk => wpAny_pyIter_enum he ?_
  have J2 : Inv X pins σ H1 { s1 with heap := h' } := I1.kept hk
  refine ⟨s1.heap.objs.size + 1, [s1.heap.objs.size + 1, s1.heap.objs.size], _, _, H1, rfl, J2, turn a (s1.heap.objs.size + 1) s1.heap.objs.size, ⟨⟨.none, he⟩, hit, Nat.succ_ne_self _, Nat.ne_of_lt hal, Nat.ne_of_lt (Nat.lt_succ_of_lt hal)⟩, fun b hb => ?_, q⟩
  have hle : b ≥ s1.heap.objs.size := by
    have z : b = s1.heap.objs.size + 1 ∨ b = s1.heap.objs.size := by simpa using hb
    rcases z with z | z
    · rw [z]
      exact Nat.le_add_right _ _
    · rw [z]
      exact Nat.le_refl _
  exact Inv.fpOk I1 hle (HOk.fresh I1.hok hle)
end MkE

/-! set(a list of ints) -/
namespace MkS
open PySem PySem.Spec PyProof.Rows L2
section
variable {A : Around} {s : Shared} {P : Program} {w : World} {E : Value → Shared → Prop}
abbrev oNew (w : World) : Obj := { cls := .type "set", dict := none, data := .set #[] 0 (.fresh 0 0 (!w.params.followText "set-order")) }
/-- what is wanted behind the filling -/
def Filled (w : World) (s : Shared) (ns : List Int) (s2 : Shared) : Prop :=
  ∃ h' tk c, s2 = { s with heap := h', toks := tk } ∧ SetR w h' s.heap.objs.size (fun j => decide (j ∈ ns)) c ∧ c ≤ ns.length ∧ ∀ b o, s.heap.get? b = some o → h'.get? b = some o
theorem fill {l : Addr} {items : Array Value} (ns : List Int) (hh : A.handled = none) (hl : s.heap.IsList l items) (hi : IntsAre items.toList ns) (hb : ns.length + 1 < scanBound) {R : Result → Shared → Prop}
    (h : ∀ s2, Filled w s ns s2 → R (.ok (.ret .none)) s2) :
    codeAny (model P w) A (.call (.builtin "set.__init__") ⟨[.ref s.heap.objs.size, .ref l], []⟩) R { s with heap := s.heap.push (oNew w) } := by
  have hsz : items.size = ns.length := by
    rw [← Array.length_toList]
    exact IntsAre.length hi
  have hS : (s.heap.push (oNew w)).get? s.heap.objs.size = some (oNew w) := Heap.get?_push_size _ rfl
  have hT : Shared.TypeIs { s with heap := s.heap.push (oNew w) } (.ref s.heap.objs.size) "set" := ⟨_, hS, rfl⟩
  refine codeAny_call_builtin F.called_set.init.plain F.entry_set_init (check_set_init_1 hT ?_)
  obtain ⟨⟨ocls, odict, odata, oslots⟩, hol, hcl, nl, hdl⟩ := hl
  simp only at hcl hdl
  subst hcl hdl
  have hol2 : (s.heap.push (oNew w)).get? l = some { cls := .type "list", dict := odict, data := .seq items nl, slots := oslots } := Heap.get?_push_of_some _ hol
  have sub1 := F.sub_list_set
  have sub2 := F.sub_list_frozenset
  have nodict : (Value.type "list" == Value.type "dict") = false := rfl
  have hl1 : (s.heap.push (oNew w)).IsList l items := ⟨_, hol2, rfl, nl, rfl⟩
  unfold Builtin.«set.__init__»
  unfold noKeywords Builtin.Frozenset.updateFrom
  generalize hPI : pyIter = PI
  wp_walk
  subst hPI
  refine wpAny_pyIter_list hl1 (wpAny_bind (wpAny_runValue ?_))
  have hlt : s.heap.objs.size > l := Heap.lt_size hol
  have hz : (s.heap.push (oNew w)).objs.size = s.heap.objs.size + 1 := Heap.size_push ..
  have n1 : l ≠ (s.heap.push (oNew w)).objs.size := by
    rw [hz]
    exact Nat.ne_of_lt (Nat.lt_succ_of_lt hlt)
  have n2 : s.heap.objs.size ∉ [(s.heap.push (oNew w)).objs.size, l] := by
    rw [hz]
    intro hm
    rcases List.mem_cons.1 hm with e | hm
    · exact Nat.succ_ne_self _ e.symm
    · exact Nat.ne_of_gt hlt (List.mem_singleton.mp hm)
  have allInt : ∀ (i : Nat) (v : Value), items[i]? = some v → ∃ k t, ns[i]? = some k ∧ v = .int k t := by
    intro i v hv
    have hil : i < ns.length := by
      rw [← hsz]
      exact (Array.getElem?_eq_some_iff.mp hv).1
    obtain ⟨t, e⟩ := IntsAre.int_at hi i v (by rw [Array.getElem?_toList]; exact hv)
    refine ⟨ns[i], t, List.getElem?_eq_getElem hil, ?_⟩
    rw [e, List.getD_eq_getElem?_getD, List.getElem?_eq_getElem hil] <;> rfl
  refine set_update_ints ((Walks.list (by simp [hh]) _ l n1 items).toS) s.heap.objs.size n2 ns hsz hb allInt (items.size - 0) 0 _ (by omega) (Nat.zero_le _) ⟨⟨_, Heap.get?_push_size _ rfl, rfl, rfl⟩, hl1.push _⟩ ⟨0, Nat.le_refl 0, setR_new_at (Heap.get?_push_of_some _ hS)⟩ ?_
  intro s' c hm hc hS'
  obtain ⟨h', gs, dr, tk', so⟩ := s'
  obtain rfl : gs = s.gens := hm.gens
  obtain rfl : dr = s.drawn := hm.drawn
  obtain rfl : so = s.os := hm.os
  show wpAny _ _ _ _ _ _
  refine wpAny_pure ?_
  show wpAny (model P w) _ (ret Value.none) _ _ _
  refine wpAny_pure (h _ ⟨h', tk', c, rfl, hS', by rw [← hsz]; exact hc, fun b o e => ?_⟩)
  have hbl : s.heap.objs.size > b := Heap.lt_size e
  refine hm.heap b o (fun hmem => ?_) (Heap.get?_push_of_some _ (Heap.get?_push_of_some _ e))
  rcases List.mem_cons.1 hmem with e1 | hmem
  · exact Nat.ne_of_lt hbl e1
  · have e2 := List.mem_singleton.mp hmem
    rw [hz] at e2
    exact Nat.ne_of_lt (Nat.lt_succ_of_lt hbl) e2
theorem make {l : Addr} {items : Array Value} (ns : List Int) {Q : Value → Shared → Prop} (hh : A.handled = none) (hl : s.heap.IsList l items) (hi : IntsAre items.toList ns) (hb : ns.length + 1 < scanBound)
    (h : ∀ s2, Filled w s ns s2 → Q (.ref s.heap.objs.size) s2) : wpAny (model P w) A (call (.type "set") [.ref l]) Q E s := by
  have cs := F.called_set
  obtain ⟨_, _, mro⟩ := cs.mro
  have ⟨made, sub⟩ := And.intro cs.made cs.sub
  have ⟨noType, create⟩ := And.intro cs.notType cs.canCreate
  have call1 := F.typeCall_set_1 (Value.ref l)
  have quiet : (Code.builtin "type.__call__" ⟨[.type "set", .ref l], []⟩).quiet = true := Code.quiet_builtin _ (by decide +kernel)
  refine wpAny_call (codeAny_of_tree (wpAny_pure ⟨quiet, codeAny_builtin F.entry_type_call ?_⟩))
  rw [Around.under_plain (weight_type_call_type "set" [Value.ref l] []) rfl]
  repeat any_goals first | assumption | wp_step
  refine codeAny_mono (code_set_led1 (.ref l) (E := E) (Q₁ := fun obj s1 => obj = .ref s.heap.objs.size ∧ s1 = { s with heap := s.heap.push (oNew w) }) ⟨rfl, rfl⟩) fun r s1 hr => ?_
  cases r with
  | error e => exact hr
  | ok fl =>
    cases fl with
    | ret obj =>
      obtain ⟨rfl, rfl⟩ := hr
      have hS : (s.heap.push (oNew w)).get? s.heap.objs.size = some (oNew w) := Heap.get?_push_size _ rfl
      have hT : Shared.TypeIs { s with heap := s.heap.push (oNew w) } (.ref s.heap.objs.size) "set" := ⟨_, hS, rfl⟩
      have look := cs.init.lookup
      have bound := cs.init.bind (.ref s.heap.objs.size)
      repeat any_goals first | assumption | wp_step
      refine codeAny_mono (fill (R := wants (fun r s2 => r = .none ∧ Filled w s ns s2) E) ns (by simp [hh]) hl hi hb fun s2 hf => ⟨rfl, hf⟩) fun r2 s2 hr2 => ?_
      cases r2 with
      | error e => exact hr2
      | ok fl2 =>
        cases fl2 with
        | ret r =>
          obtain ⟨rfl, hf⟩ := hr2
          repeat any_goals first | assumption | wp_step
          exact h _ hf
        | _ => exact hr2.elim
    | _ => exact hr.elim
end
def rSetL (K : PySem.W.Frag) (w : World) : List V → Hp → VK → Prop := fun xs H Q => ∃ (l : Addr) (ns : List Int), xs = [.ref l] ∧ SqL K H l (ns.map V.int) ∧ ns.length ≤ 1000 ∧
  ∀ p c, c ≤ ns.length → H p = none → Q (.ref p) (upd H p (SetO w p (fun j => decide (j ∈ ns)) c))
theorem cr_setL {X : Cx} (hc : X.calm = true) : CallR X (.type "set") (rSetL X.K X.w) := by
  intro pins s σ H xs us Q I r hyp
  obtain ⟨l, ns, rfl, hq, hn, q⟩ := hyp
  rw [Vals.ref1 r]
  obtain ⟨its, rv, pl, _⟩ := I.list hq
  refine make ns (I.ok.hd hc) pl.isList (by simpa using RZ.intsAre_vals rv) (by unfold scanBound; omega) fun s2 hf => ?_
  obtain ⟨h', tk, c, rfl, hR, hcn, k⟩ := hf
  have hp : H s.heap.objs.size = none := I.hok.fresh (Nat.le_refl _)
  have J : Inv X pins σ (upd H s.heap.objs.size (SetO X.w s.heap.objs.size (fun j => decide (j ∈ ns)) c)) { s with heap := h', toks := tk } :=
    I.laid (t' := tk) k (Nat.le_refl _) (setO_new hR)
  exact ⟨.ref s.heap.objs.size, _, J, rfl, q _ c hcn hp⟩
end MkS

/-! Promises of defs that are called while no repr is under way; repr of data; f(k = v). -/
namespace MkG
open PySem PySem.Spec PyProof.Rows L2
/-- a def's promise where no guard is up -/
structure FnG (P : Program) (w : World) (K : PySem.W.Frag) (mg : Str → Option Value) (base : Heap) (k : Nat) (f : Addr) (fd : FuncData) (ps : List Str) (sp : Sp) : Prop where
  len : ∀ vs H Q E, sp vs H Q E → ps.length = vs.length
  run : ∀ (A : Around) (outer : List Env) (s : Shared) (H : Hp) (args : Args) (us : List Value) (vs : List V) (Q : VK) (E : XK), A.guards = some [] → Room k A → Env0 P w K mg base A outer s H →
    BindsTo s fd args (ps.zip us) → Vals vs us → sp vs H Q E → codeAny (model P w) A (.call (.ref f) args) (CR CX0 outer P w H s Q E) s
section
variable {P : Program} {w : World} {K : PySem.W.Frag} {mg : Str → Option Value} {base : Heap}
/-- by its body -/
theorem fnG {x qual : Str} {st : Stmt} {f : Addr} {fd : FuncData} {N ps : List Str} {k : Nat} {sp : Sp} (F : L2.Fun K x qual st f fd) (S : FnScope N ps (defScope st)) (len : ∀ vs H Q E, sp vs H Q E → vs.length = ps.length)
    (hbody : ∀ (cdv : Value) (A : Around) (outer : List Env) (s : Shared) (H : Hp) (vs : List V) (Q : VK) (E : XK), A.guards = some [] → Room k (A.deeper (envOfC qual (defScope st) s.heap.objs.size f cdv)) → sp vs H Q E →
      ∃ t, PSs (cxOf CX0 P w K mg base N qual (defScope st) f cdv A outer s H E).nox (defBody st) t ∧ t { nx := fun _ H' => Q .non H', rt := Q } (start N vs) H) : FnG P w K mg base (k + 1) f fd ps sp := by
  obtain ⟨_, _, _, _, _, _, cdv, _, _, rfl, at_f, code⟩ := F.ex
  refine ⟨fun vs H Q E h => (len vs H Q E h).symm, fun A outer s H args us vs Q E hG hr e0 hb r hsp => ?_⟩
  have stays : ∀ b o, base.get? b = some o → s.heap.get? b = some o := fun b o e => (e0.bs b o e).1
  have here : K.In s.heap := e0.mod.kin.keeps stays
  have hkind : ∀ y ∈ ps.zip us, (defScope st).names.lookup y.1 = some .local ∨ ((defScope st).names.lookup y.1 = some .cell ∧ ((cellsFrom (s.heap.objs.size + 1) (defScope st).names []).lookup y.1).isSome = true) := by
    intro y hy
    exact (S.par y.1 (List.of_mem_zip hy).1).imp id fun q => ⟨q, PySem.W.cellsFrom_some _ _ _ (Or.inl q)⟩
  refine codeAny_call_function hr.depth (here _ _ at_f) rfl S.co S.gen rfl (PySem.W.codeRec_of here code) (hb _ _ _ _ (wpAny_newFunctionEnv_cells S.kind hkind ?_))
  rintro env rfl s1 x
  refine ⟨(e0.mod.nolimit.keeps stays).keeps x.toInCall.keep, codeAny_func ?_⟩
  obtain ⟨t, ht, hq⟩ := hbody cdv A outer s H vs Q E hG (hr.deeper _) hsp
  have I : Inv (cxOf CX0 P w K mg base N qual (defScope st) f cdv A outer s H E) [] (start N vs) H s1 := inv_start S hr.hd e0 (len _ _ _ _ hsp) r x
  refine wpAny_mono (ht.nox.run [] s1 (start N vs) H _ I hq) (fun fl s' hs => ?_) fun e s' hs => hs
  cases fl with
  | ret u =>
    obtain ⟨v, _, H', J, rv, q⟩ := hs
    exact ⟨v, H', J.os, J.bare, J.base, J.hok, rv, q⟩
  | next =>
    obtain ⟨σ', H', J, q⟩ := hs
    exact ⟨.non, H', J.os, J.bare, J.base, J.hok, rfl, q⟩
  | brk =>
    obtain ⟨_, _, _, q⟩ := hs
    exact q.elim
  | cont =>
    obtain ⟨_, _, _, q⟩ := hs
    exact q.elim
/-- such a def, called by its name -/
structure CalG (P : Program) (w : World) (K : PySem.W.Frag) (mg : Str → Option Value) (base : Heap) (k : Nat) (x : Str) (sp : Sp) : Prop where
  ex : ∃ (f : Addr) (fd : FuncData) (ps : List Str), FnG P w K mg base k f fd ps sp ∧ mg x = some (.ref f) ∧ PySem.W.keepIn K (.ref f) = true ∧ Binds K fd ps []
end
section
variable {X : Cx} {k j : Nat} {x : Str} {sp : Sp} {p pos : Pos} {e : Expr} {es : List Expr} {t : TA}
theorem pe_g (c : CalG X.prog X.w X.K X.mg X.base k x sp) (hG : X.A.guards = some []) (hr : Room j X.A) (hk : k ≤ j) (hg : Gl X x) (ha : PA X (e :: es) t)
    (nodeb : (x == ("__debug__" : Str)) = false := by decide) (first : starEach (e :: es) X.env = (false, eval e X.env) :: starEach es X.env := by rfl)
    (plain : (backTo pos (starEach es X.env)).any (·.1) = false := by rfl) : PE X (.Call (.Name x p) (e :: es) [] pos) (tCall sp [] E0 t) := by
  obtain ⟨f, fd, ps, F, hm, kp, b⟩ := c.ex
  refine ⟨fun pins s σ H Q I hyp => wpAny_Call_Name_kw (ld_glob I hg hm ?_ nodeb)⟩
  refine PySem.W.callWith_K (h₀ := X.base) I.ok.mod.kin kp (thn (ha.run pos pins s σ H _ I hyp) fun us s1 ⟨vs, H1, I1, r, q⟩ => ⟨I1.kIn, ?_⟩) first plain
  have r2 : Vals (vs ++ []) (us ++ []) := r.append .nil
  have hl : (us ++ []).length = ps.length := by
    rw [← r2.length]
    exact (F.len _ _ _ _ q).symm
  refine wpAny_call (codeAny_mono (F.run X.A X.stack s1 H1 ⟨us, []⟩ (us ++ []) (vs ++ []) Q E0 hG (hr.mono hk) I1.env0 (b s1 us I1.kIn hl) r2 q) fun r s' hq => ?_)
  cases r with
  | error e => exact hq.elim
  | ok fl =>
    cases fl with
    | ret u => exact I1.after hq
    | next => exact hq.elim
    | brk => exact hq.elim
    | cont => exact hq.elim
/-! ### repr of data -/
def rRep (K : PySem.W.Frag) : List V → Hp → VK → Prop := fun xs H Q => ∃ (a : Addr) (d : PyData), xs = [.ref a] ∧ Dp K H (.ref a) d ∧ d.showable = true ∧ d.hasDict = false ∧ d.depth ≤ 50 ∧ d.shown.length ≤ sizeLine ∧ Q (.str d.shown) H
theorem cr_rep (hG : X.A.guards = some []) (hr : Room k X.A) : CallR X (.builtin "repr") (rRep X.K) := by
  intro pins s σ H xs us Q I r hyp
  obtain ⟨a, d, rfl, hd, h1, h2, h3, h4, q⟩ := hyp
  rw [Vals.ref1 r]
  obtain ⟨as, hR⟩ := Dp.reads I d (.ref a) (.ref a) hd rfl
  have hu := hr.units
  refine repr_of_reads' hR h1 (PyData.noDict_hsm h2) hG (by omega) (fun b o e => e) (fun h' u tk hk => ?_) h4
  exact ⟨.str d.shown, H, I.kept hk, ⟨u, rfl⟩, q⟩
/-! ### f(k = v) -/
structure CalK (P : Program) (w : World) (K : PySem.W.Frag) (mg : Str → Option Value) (base : Heap) (k : Nat) (x : Str) (ks : List Str) (sp : Sp) : Prop where
  ex : ∃ (f : Addr) (fd : FuncData) (ps : List Str), FnOk P w K mg base CX0 k f fd ps sp ∧ mg x = some (.ref f) ∧ PySem.W.keepIn K (.ref f) = true ∧
    ∀ (s : Shared) (ws : List Value), K.In s.heap → ws.length = ps.length → BindsTo s fd ⟨[], ks.zip ws⟩ (ps.zip ws)
theorem pe_k {kws : List Keyword} {ks : List Str} (c : CalK X.prog X.w X.K X.mg X.base k x ks sp) (hr : Room j X.A) (hk : k ≤ j) (hg : Gl X x) (hkw : PK X kws t)
    (nodeb : (x == ("__debug__" : Str)) = false := by decide) (named : (backToKw pos (keywordEach kws X.env)).all (·.1.isSome) = true := by rfl) (names : (backToKw pos (keywordEach kws X.env)).filterMap (·.1) = ks := by rfl)
    (plain : ((backTo pos (starEach [] X.env)).any (·.1) || (backToKw pos (keywordEach kws X.env)).any (·.1.isNone)) = false := by rfl) : PE X (.Call (.Name x p) [] kws pos) (tCall sp [] E0 t) := by
  obtain ⟨f, fd, ps, F, hm, kp, b⟩ := c.ex
  refine ⟨fun pins s σ H Q I hyp => wpAny_Call_Name_kw (ld_glob I hg hm ?_ nodeb)⟩
  refine PySem.W.callWith_KW0 (h₀ := X.base) I.ok.mod.kin kp named (thn (hkw.run pos pins s σ H _ I hyp) fun ws s2 hap => ?_) plain
  obtain ⟨zs, H2, I2, rz, q⟩ := hap
  refine ⟨I2.kIn, ?_⟩
  rw [names]
  have q' : sp zs H2 Q E0 := by
    have q2 : sp (zs ++ []) H2 Q E0 := q
    rw [List.append_nil] at q2
    exact q2
  have hl : ws.length = ps.length := by
    rw [← rz.length]
    exact F.len _ _ _ _ q'
  show wpAny _ _ (call (.ref f) [] (ks.zip ws)) _ _ _
  refine wpAny_call (codeAny_mono (F.run X.A X.stack s2 H2 ⟨[], ks.zip ws⟩ ws zs Q E0 (hr.mono hk) I2.env0 (b s2 ws I2.kIn hl) rz q') fun r s' hq => ?_)
  cases r with
  | error e => exact hq.elim
  | ok fl =>
    cases fl with
    | ret u => exact I2.after hq
    | next => exact hq.elim
    | brk => exact hq.elim
    | cont => exact hq.elim
end
/-! ### the end of a law whose def has such a promise -/
section
variable {P : Program} {w : World} {K : PySem.W.Frag} {mg mb : Str → Option Value} {s1 : Shared}
/-- what is hidden of the heap: H, the script's alone -/
theorem law_from {k : Nat} {fa a : Addr} {fd : FuncData} {x : Str} {sp : Sp} {vs : List Value} {H : Hp} (KX : K.In s1.heap) (hns : s1.heap.Ns mainGlobals mg) (hb : s1.heap.Ns builtinsNs mb) (hbb : ∀ x : Str, x ≠ "__name__" → mb x = bootBuiltins x)
    (hlim : s1.heap.NoLimit) (hg : s1.gens = #[]) (ha : s1.heap.get? a = some { cls := .type "list", data := .seq vs.toArray }) (hr : Room k callerA)
    (F : ∀ base : Heap, K.In base → base.Ns mainGlobals mg → FnG P w K mg base k fa fd [x] sp) (hbind : ∀ (s : Shared) (u : Value), BindsTo s fd ⟨[u], []⟩ [(x, u)])
    (hO : Only H) (hok : HOk P w H s1.heap) (hA : ∀ b, H b ≠ none → b = a) (hK : H a ≠ none → K.lookup a = none) (hsp : sp [.ref a] H (fun v _ => v = .bl true) fun _ _ _ => False) :
    codeAny (model P w) callerA (.call (.ref fa) ⟨[.ref a], []⟩) (fun r s' => r = .ok (.ret (.bool true)) ∧ OldK s1.heap s'.heap ∧ s'.os = s1.os ∧ AllBare s'.gens) s1 := by
  have there : ∀ {b : Addr}, (b = a → False) → H b = none := fun {b} hne => by
    cases q : H b with
    | none => rfl
    | some u => exact (hne (hA b (by rw [q]; simp))).elim
  have ofDict : ∀ {b : Addr} {o : Obj} {es : Array DictEntry} {ep : Nat}, s1.heap.get? b = some o → o.data = .dict es ep → H b = none := fun {b o es ep} e d => there fun z => by
    rw [z, ha] at e
    cases e
    cases d
  have nsK : ∀ {b : Addr} {m : Str → Option Value}, s1.heap.Ns b m → (hidT s1.heap H).Ns b m := fun {b m} q => by
    obtain ⟨o, es, ep, e, d, r⟩ := q
    exact ⟨o, es, ep, hidT_get e (ofDict e d), d, r⟩
  have hKb : K.In (hidT s1.heap H) := fun b o e => by
    refine hidT_get (KX b o e) ?_
    cases q : H b with
    | none => rfl
    | some u =>
      have z := hA b (by rw [q]; simp)
      rw [z] at e q
      have gone := hK (by rw [q]; simp)
      rw [gone] at e
      cases e
  have hM : Mod K mg (hidT s1.heap H) := by
    obtain ⟨mc, h1, h2⟩ := hlim
    exact ⟨hKb, nsK hns, ⟨mb, nsK hb, hbb⟩, mc, nsK h1, h2⟩
  have e0 : Env0 P w K mg (hidT s1.heap H) callerA [] s1 H :=
    ⟨rfl, hM, fun b o e => of_hidT e, Nat.le_of_eq (hidT_size _ _), trivial, fun b hm => absurd (show b ∈ ([] : List Addr) from hm) (by simp), hok, .of_eq hg⟩
  refine codeAny_mono ((F _ hKb (nsK hns)).run callerA [] s1 H ⟨[.ref a], []⟩ [.ref a] [.ref a] _ _ rfl hr e0 (hbind s1 (.ref a)) (.cons rfl .nil) hsp) fun r s' h => ?_
  cases r with
  | error e => exact h.elim
  | ok fl =>
    cases fl with
    | next => exact h.elim
    | brk => exact h.elim
    | cont => exact h.elim
    | ret u =>
      obtain ⟨v, H', hos, hbare, un, hok', rel, q⟩ := h
      have ev : v = .bl true := q
      subst ev
      have eu : u = Value.bool true := rel
      subst eu
      refine ⟨rfl, OldK.of_keep ?_, hos, hbare⟩
      intro b o e
      obtain z | ⟨ob, xs, z⟩ := hO b
      · exact un.keep b o e z (fun hm => absurd (show b ∈ ([] : List Addr) from hm) (by simp)) (by simp)
      · have e1 := (hok b _ z).1
        have e2 := (hok' b _ (un.frzs b ob _ z)).1
        rw [e] at e1
        cases e1
        exact e2
theorem law_g {k : Nat} {fa a : Addr} {fd : FuncData} {x : Str} {sp : Sp} {vs : List Value} {ns : List Int} (KX : K.In s1.heap) (hns : s1.heap.Ns mainGlobals mg) (hb : s1.heap.Ns builtinsNs mb) (hbb : ∀ x : Str, x ≠ "__name__" → mb x = bootBuiltins x)
    (hlim : s1.heap.NoLimit) (hg : s1.gens = #[]) (ha : s1.heap.get? a = some { cls := .type "list", data := .seq vs.toArray }) (hi : IntsAre vs ns) (hl : ns.length ≤ sizeLine) (hr : Room k callerA)
    (F : ∀ base : Heap, K.In base → base.Ns mainGlobals mg → FnG P w K mg base k fa fd [x] sp) (hbind : ∀ (s : Shared) (u : Value), BindsTo s fd ⟨[u], []⟩ [(x, u)])
    (hsp : ∀ H : Hp, Only H → SqL K H a (ns.map V.int) → sp [.ref a] H (fun v _ => v = .bl true) fun _ _ _ => False) :
    codeAny (model P w) callerA (.call (.ref fa) ⟨[.ref a], []⟩) (fun r s' => r = .ok (.ret (.bool true)) ∧ OldK s1.heap s'.heap ∧ s'.os = s1.os ∧ AllBare s'.gens) s1 := by
  have rv := vals_ints hi
  cases hk : K.lookup a with
  | some o =>
    have e := KX a o hk
    rw [ha] at e
    cases e
    have hO : Only fun _ => none := fun _ => .inl rfl
    refine law_from KX hns hb hbb hlim hg ha hr F hbind hO (fun b u z => nomatch z) (fun b z => absurd rfl z) (fun z => absurd rfl z) (hsp _ hO (.inr ⟨_, vs.toArray, _, hk, rfl, rfl, rfl, ?_, by simpa using rv⟩))
    rw [List.size_toArray]
    exact hi.length ▸ hl
  | none =>
    have one : ∀ b u, (fun b => if b = a then some (HO.frz { cls := .type "list", data := .seq vs.toArray } (.lst (ns.map V.int))) else none) b = some u → b = a ∧ u = HO.frz { cls := .type "list", data := .seq vs.toArray } (.lst (ns.map V.int)) := fun b u z => by
      by_cases e : b = a
      · exact ⟨e, (Option.some.inj ((if_pos e).symm.trans z)).symm⟩
      · exact nomatch (if_neg e).symm.trans z
    have hO : Only fun b => if b = a then some (HO.frz { cls := .type "list", data := .seq vs.toArray } (.lst (ns.map V.int))) else none := fun b => by
      by_cases e : b = a
      · exact .inr ⟨_, _, if_pos e⟩
      · exact .inl (if_neg e)
    refine law_from KX hns hb hbb hlim hg ha hr F hbind hO (fun b u z => ?_) (fun b z => ?_) (fun _ => hk) (hsp _ hO (.inl (.inr ⟨_, if_pos rfl⟩)))
    · obtain ⟨e1, e2⟩ := one b u z
      subst e1 e2
      refine ⟨ha, ?_, vs, _, rv, ha⟩
      rw [List.length_map]
      exact hl
    · by_cases e : b = a
      · exact e
      · exact absurd (if_neg e) z
end
theorem walk_g {l : PySem.W.OpenLaw} {n k : Nat} {q : Program} {loose : List Str} {XP : (Str → Option Value) → Heap → Prop} {YP : World → Heap → Prop} {d : DefRec} {K : Params → PySem.W.Frag} {sp : World → Sp} {x : Str}
    (most : l.most = some n) (few : n ≤ sizeLine) (nodef : d.params.defaults = []) (hr : Room k callerA)
    (hY : ∀ (w : World) (h : Heap), YP w h → (K w.params).In h)
    (F : ∀ (w : World) (mg : Str → Option Value) (fa : Addr) (h : Heap), (K w.params).In h → h.Ns mainGlobals mg → mg d.name = some (.ref fa) →
      ∃ fd : FuncData, (∀ (s : Shared) (u : Value), BindsTo s fd ⟨[u], []⟩ [(x, u)]) ∧ ∀ base : Heap, (K w.params).In base → base.Ns mainGlobals mg → FnG l.prog w (K w.params) mg base k fa fd [x] (sp w))
    (hsp : ∀ (w : World) (H : Hp) (a : Addr) (ns : List Int), ns.length ≤ n → Only H → SqL (K w.params) H a (ns.map V.int) → sp w [.ref a] H (fun v _ => v = .bl true) fun _ _ _ => False) :
    PySem.W.WalkO q loose XP YP l.row.toRowW d [] fun f vs => PySem.call f vs := by
  refine Att.attach_call most nodef fun w s0 s1 mg mb fa o pm cd doc a vs ns G Y ho hd hcd hmg hobj hints hlen hg => ?_
  have KX := hY w _ Y
  obtain ⟨fd, binds, keeps⟩ := F w mg fa _ KX G.T.g hmg
  exact law_g KX G.T.g G.T.b G.T.builtins G.T.nolimit hg hobj hints (Nat.le_trans hlen few) hr keeps binds fun H hO hS => hsp w H a ns hlen hO hS
end MkG

/-! The text by places, the names, what tables and coins are in the heap. -/
namespace Mk
open PySem PySem.Spec PyProof.Rows L2 Mint
def topS (i : Nat) : Stmt := PySem.Challenge.pw_mintlots_k34_whole_losses_of_deals_and_w.main.body.getD i (.Pass ⟨0, 0, 0, 0⟩)
abbrev sIsInt : Stmt := topS 9
abbrev sWithin : Stmt := topS 10
abbrev sDiv : Stmt := topS 12
abbrev sWrong : Stmt := topS 15
abbrev sLotC : Stmt := topS 18
abbrev sInit : Stmt := inClass sLotC 0
abbrev sCoins : Stmt := inClass sLotC 2
abbrev sCheck : Stmt := topS 19
abbrev sEased : Stmt := topS 21
abbrev sCosts : Stmt := topS 22
abbrev sMoves : Stmt := topS 24
abbrev sLosses : Stmt := topS 25
abbrev sWorst : Stmt := topS 26
abbrev sBag : Stmt := topS 28
abbrev sGrab : Stmt := topS 29
abbrev sSome : Stmt := topS 30
abbrev sLCoins : Stmt := topS 31
abbrev sLMoves : Stmt := topS 32
abbrev sDue : Stmt := topS 33
abbrev sRight : Stmt := topS 34
abbrev sLaw : Stmt := topS 35
/-- built-in names that the module does not hide -/
structure Nm (mg : Str → Option Value) : Prop where
  isinstance : mg "isinstance" = none
  int : mg "int" = none
  bool : mg "bool" = none
  tuple : mg "tuple" = none
  len : mg "len" = none
  range : mg "range" = none
  enumerate : mg "enumerate" = none
  max : mg "max" = none
  min : mg "min" = none
  abs : mg "abs" = none
  divmod : mg "divmod" = none
  sorted : mg "sorted" = none
  set : mg "set" = none
  repr : mg "repr" = none
  all : mg "all" = none
  coin : ∃ t, mg "MOST_COIN" = some (.int 60 t)
  coins : ∃ t, mg "MOST_COINS" = some (.int 15 t)


section
variable {P : Program} {w : World} {K : PySem.W.Frag} {mg : Str → Option Value} {base : Heap}
theorem cal {x : Str} {f : Addr} {fd : FuncData} {ps : List Str} {k : Nat} {sp : Sp} {st : Stmt} (F : L2.Fun K x x st f fd) (G : FnOk P w K mg base CX0 k f fd ps sp) (m : mg x = some (.ref f)) (b : Binds K fd ps []) : C8.Cal P w K mg base k x sp [] :=
  ⟨f, fd, ps, [], G, m, F.kp, b, .nil⟩
end
/-! ### tables -/
def ov : Option Int → V
  | none => .non
  | some n => .int n
theorem ov_get {t : Tab} {i : Nat} (h : i < t.length) : (t.map ov)[i]? = some (ov (t.getD i none)) := by
  rw [List.getElem?_map, List.getD_eq_getElem?_getD, List.getElem?_eq_getElem h]
  rfl
theorem ov_set (t : Tab) (i : Nat) (o : Option Int) : (t.map ov).set i (ov o) = (t.set i o).map ov := by
  rw [List.map_set]
theorem ov_none (o : Option Int) : decide (ov o = V.non) = o.isNone := by
  cases o with
  | none => rfl
  | some n => exact decide_eq_false fun q => nomatch q
/-! ### coins -/
def cv (L : List Nat) : List V := L.map fun c : Nat => V.int (c : Int)
theorem cv_len (L : List Nat) : (cv L).length = L.length := List.length_map _
theorem cv_get {L : List Nat} {i : Nat} {x : V} (h : (cv L)[i]? = some x) : ∃ c : Nat, L[i]? = some c ∧ x = .int (c : Int) := by
  unfold cv at h
  rw [List.getElem?_map] at h
  cases e : L[i]? with
  | none =>
    rw [e] at h
    cases h
  | some c =>
    rw [e] at h
    exact ⟨c, rfl, (Option.some.inj h).symm⟩
theorem cv_at {L : List Nat} {i : Nat} {c : Nat} (h : L[i]? = some c) : (cv L)[i]? = some (.int (c : Int)) := by
  unfold cv
  rw [List.getElem?_map, h]
  rfl
/-- the lots that are drawn: C and the greatest coin G -/
structure Lots (C : List Nat) (G : Nat) : Prop where
  sm : Small G C
  top : G ≤ 24
  one : ∀ c ∈ C, 1 ≤ c
  asc : (C ++ [G]).Pairwise (· < ·)
  few : C.length ≤ 4
/-! ### heaps -/
theorem same_new {H : Hp} {p : Addr} {o : HO} (h : H p = none) : Same H (upd H p o) := fun b x e => by
  rw [upd_ne (ne_of_none e h)]
  exact e
theorem upd_id {H : Hp} {p : Addr} {o : HO} (h : H p = some o) : upd H p o = H := by
  funext b
  by_cases e : b = p
  · subst e
    rw [upd_same, h]
  · rw [upd_ne e]
theorem seqT {K : PySem.W.Frag} {H H' : Hp} {a : Addr} {xs : List V} (e : Same H H') (h : SqT K H a xs) : SqT K H' a xs := by
  refine h.imp (fun r => ?_) id
  exact r.imp (fun z => e _ _ z) fun ⟨u, z⟩ => ⟨u, e _ _ z⟩
theorem small {n : Nat} (h : n ≤ 100000) : n < sizeLine := Nat.lt_of_le_of_lt h (by decide)
end Mk

namespace Mk
open PySem PySem.Spec PyProof.Rows L2 Mint
section
variable {P : Program} {w : World} {K : PySem.W.Frag} {mg : Str → Option Value} {base : Heap}
/-! ### is_integer -/
def spIsInt : Sp := fun vs H Q _ => ∃ i, vs = [.int i] ∧ Q (.bl true) H
theorem scIsInt : FnScope ["value"] ["value"] (defScope sIsInt) := ⟨rfl, rfl, rfl, by decide +kernel, rfl, by decide +kernel, by decide +kernel⟩
theorem ok_isint {f : Addr} {fd : FuncData} (F : L2.Fun K "is_integer" "is_integer" sIsInt f fd) (N : Nm mg) : FnOk P w K mg base CX0 1 f fd ["value"] spIsInt := by
  refine F.ok scIsInt (fun vs H Q E h => ?_) (fun cdv A outer s H vs Q E hr h => ?_)
  · obtain ⟨i, rfl, _⟩ := h
    rfl
  · obtain ⟨i, rfl, q⟩ := h
    refine ⟨_, pss_one (ps_ret (pe_and (pe_callB call_isi (by rfl) N.isinstance (by decide +kernel) (pa_cons (pv 0) (pa_cons (pe_bltn (v := .ty "int") (by rfl) N.int (by decide +kernel) rfl) pa_nil)))
      (pe_one (pe_not (pe_callB call_isi (by rfl) N.isinstance (by decide +kernel) (pa_cons (pv 0) (pa_cons (pe_bltn (v := .ty "bool") (by rfl) N.bool (by decide +kernel) rfl) pa_nil)))))) ), ?_⟩
    refine ⟨_, rfl, _, _, .type "int", .type "int", true, rfl, .ty "int", .base (.int i), kit_ty (by decide +kernel), true, rfl, iteT ?_⟩
    exact ⟨_, rfl, _, _, .type "int", .type "bool", false, rfl, .ty "bool", .base (.int i), kit_ty (by decide +kernel), false, rfl, q⟩
/-! ### is_within_bounds -/
def spWithin : Sp := fun vs H Q _ => ∃ i lo hi, vs = [.int i, .int lo, .int hi] ∧ lo ≤ i ∧ i ≤ hi ∧ Q (.bl true) H
theorem scWithin : FnScope ["value", "least", "most"] ["value", "least", "most"] (defScope sWithin) := ⟨rfl, rfl, rfl, by decide +kernel, rfl, by decide +kernel, by decide +kernel⟩
theorem ok_within {f : Addr} {fd : FuncData} (F : L2.Fun K "is_within_bounds" "is_within_bounds" sWithin f fd) (C : C8.Cal P w K mg base 1 "is_integer" spIsInt []) : FnOk P w K mg base CX0 2 f fd ["value", "least", "most"] spWithin := by
  refine F.ok scWithin (fun vs H Q E h => ?_) (fun cdv A outer s H vs Q E hr h => ?_)
  · obtain ⟨i, lo, hi, rfl, _⟩ := h
    rfl
  · obtain ⟨i, lo, hi, rfl, h1, h2, q⟩ := h
    refine ⟨_, pss_one (ps_ret (pe_and (C8.pe_c C hr (Nat.le_refl _) (by rfl) (pa_cons (pv 0) pa_nil)) (pe_one (pe_chain op_le op_le (pv 1) (pv 0) (pv 2))))), ?_⟩
    refine ⟨_, rfl, i, rfl, true, rfl, iteT ?_⟩
    refine ⟨_, rfl, _, rfl, _, _, rfl, rfl, _, rfl, ?_⟩
    rw [decide_eq_true h1]
    refine iteT ⟨_, rfl, _, _, rfl, rfl, ?_⟩
    show Q (.bl (decide (i ≤ hi))) H
    rw [decide_eq_true h2]
    exact q
/-! ### common_divisor -/
def spDiv : Sp := fun vs H Q _ => ∃ a b : Nat, vs = [.int a, .int b] ∧ Q (.int (Nat.gcd a b : Nat)) H
theorem scDiv : FnScope ["one", "other", "first", "second"] ["one", "other"] (defScope sDiv) := ⟨rfl, rfl, rfl, by decide +kernel, rfl, by decide +kernel, by decide +kernel⟩
theorem ok_div {f : Addr} {fd : FuncData} (F : L2.Fun K "common_divisor" "common_divisor" sDiv f fd) (N : Nm mg) : FnOk P w K mg base CX0 1 f fd ["one", "other"] spDiv := by
  refine F.ok scDiv (fun vs H Q E h => ?_) (fun cdv A outer s H vs Q E hr h => ?_)
  · obtain ⟨a, b, rfl, _⟩ := h
    rfl
  · obtain ⟨a, b, rfl, q⟩ := h
    refine ⟨_, pss_cons (ps_par (i := 2) (j := 3) (by rfl) scDiv.nd rfl rfl (by decide) rfl rfl (pa_cons (pv 0) (pa_cons (pv 1) pa_nil)) (by rfl))
      (pss_cons (ps_while PassesOwn.never (pt_cmpR op_gt (pv 3) pe_int (nomark _))
          (pss_one (ps_par (i := 2) (j := 3) (by rfl) scDiv.nd rfl rfl (by decide) rfl rfl (pa_cons (pv 3) (pa_cons (pe_op op_modN (pe_callTy call_int1 (by rfl) N.int (by decide +kernel) (pa_cons (pv 2) pa_nil)) (pv 3)) pa_nil)) (by rfl))))
      (pss_one (ps_ret (pv 2)))), ?_⟩
    refine ⟨_, rfl, _, rfl, _, _, rfl, ?_⟩
    refine ⟨fun m σ H' => ∃ x y : Nat, σ = [some (.int a), some (.int b), some (.int x), some (.int y)] ∧ m = y ∧ H' = H ∧ Nat.gcd x y = Nat.gcd a b, ⟨b, a, b, rfl, rfl, rfl, rfl⟩, ?_⟩
    rintro m σ H' ⟨x, y, rfl, rfl, rfl, hg⟩
    refine ⟨_, rfl, _, _, rfl, rfl, _, rfl, ite2 (fun e => ?_) (fun e => ?_)⟩
    · have hy : (0 : Int) < m := of_decide_eq_true e
      refine ⟨fun σ' H2 => ∃ x2 y2 : Nat, σ' = [some (.int a), some (.int b), some (.int x2), some (.int y2)] ∧ y2 < m ∧ H2 = H' ∧ Nat.gcd x2 y2 = Nat.gcd a b, ?_, ?_⟩
      · rintro σ' H2 ⟨x2, y2, e1, e2, e3, e4⟩
        exact ⟨y2, e2, x2, y2, e1, rfl, e3, e4⟩
      · refine ⟨_, rfl, _, rfl, .inl ⟨_, rfl, ?_⟩⟩
        refine ⟨_, rfl, _, _, rfl, rfl, by omega, _, _, rfl, m, x % m, ?_, Nat.mod_lt _ (by omega), rfl, ?_⟩
        · have ef : Int.fmod (x : Int) (m : Int) = ((x % m : Nat) : Int) := by
            rw [Int.fmod_eq_emod_of_nonneg _ (Int.natCast_nonneg m), ← Int.natCast_emod]
          show [some (V.int (a : Int)), some (V.int (b : Int)), some (V.int (m : Int)), some (V.int (Int.fmod (x : Int) (m : Int)))] = _
          rw [ef]
        · rw [← hg, Nat.gcd_comm x m, Nat.gcd_comm m, ← Nat.gcd_rec]
    · have hy : m = 0 := by
        have : ¬ ((0 : Int) < m) := fun z => e (decide_eq_true z)
        omega
      subst hy
      rw [Nat.gcd_zero_right] at hg
      refine ⟨_, rfl, ?_⟩
      rw [hg]
      exact q
/-! ### check_lot -/
def spCheck (C : Addr) : Sp := fun vs H Q _ => ∃ a dx fs, vs = [.ref a] ∧ H a = some (.ins C dx fs) ∧ Q .non H
theorem scCheck : FnScope ["value"] ["value"] (defScope sCheck) := ⟨rfl, rfl, rfl, by decide +kernel, rfl, by decide +kernel, by decide +kernel⟩
theorem ok_check {f C : Addr} {fd : FuncData} (F : L2.Fun K "check_lot" "check_lot" sCheck f fd) (N : Nm mg) (hC : mg "Lot" = some (.ref C)) (I : C8.InsC K C) : FnOk P w K mg base CX0 1 f fd ["value"] (spCheck C) := by
  refine F.ok scCheck (fun vs H Q E h => ?_) (fun cdv A outer s H vs Q E hr h => ?_)
  · obtain ⟨a, dx, fs, rfl, _⟩ := h
    rfl
  · obtain ⟨a, dx, fs, rfl, ha, q⟩ := h
    refine ⟨_, pss_one (ps_if (pt_not (pt_val (pe_callB (C8.call_isC I) (by rfl) N.isinstance (by decide +kernel) (pa_cons (pv 0) (pa_cons (pe_glob (v := .ref C) (by rfl) hC rfl) pa_nil))))) (pss_one ps_never) pss_nil), ?_⟩
    exact ⟨_, rfl, a, dx, fs, rfl, ha, true, rfl, iteF q⟩
end
end Mk

namespace Mk
open PySem PySem.Spec PyProof.Rows L2 Mint
section
variable {P : Program} {w : World} {K : PySem.W.Frag} {mg : Str → Option Value} {base : Heap}
/-- coins of a lot that is asked for -/
structure Coins (L : List Nat) : Prop where
  few : L.length ≤ 5
  rng : ∀ c ∈ L, 1 ≤ c ∧ c ≤ 24
  asc : L.Pairwise (· < ·)
  ne : L ≠ []
theorem V.int_ne {i j : Int} (h : i ≠ j) : decide (V.int i = V.int j) = false := decide_eq_false fun e => h (V.int.inj e)
/-! ### first_wrong -/
def spWrong (K : PySem.W.Frag) : Sp := fun vs H Q _ => ∃ a L, vs = [.ref a] ∧ SqT K H a (cv L) ∧ Coins L ∧ ∀ H', Same H H' → Q .non H'
theorem scWrong : FnScope ["value", "index", "coin"] ["value"] (defScope sWrong) := ⟨rfl, rfl, rfl, by decide +kernel, rfl, by decide +kernel, by decide +kernel⟩
theorem ok_wrong {f : Addr} {fd : FuncData} (F : L2.Fun K "first_wrong" "first_wrong" sWrong f fd) (N : Nm mg) (C : C8.Cal P w K mg base 2 "is_within_bounds" spWithin []) : FnOk P w K mg base CX0 3 f fd ["value"] (spWrong K) := by
  obtain ⟨t60, h60⟩ := N.coin
  obtain ⟨t15, h15⟩ := N.coins
  refine F.ok scWrong (fun vs H Q E h => ?_) (fun cdv A outer s H vs Q E hr h => ?_)
  · obtain ⟨a, L, rfl, _⟩ := h
    rfl
  · obtain ⟨a, L, rfl, hA, hL, q⟩ := h
    refine ⟨_, pss_cons (ps_for PassesOwn.never rfl (MkE.pi_enT (by rfl) N.enumerate (pa_cons (pv 0) pa_nil))
        (pg_tup rfl (pgs_cons (pg_name (i := 1) scWrong.nd rfl (.inl rfl)) (pgs_cons (pg_name (i := 2) scWrong.nd rfl (.inl rfl)) pgs_nil)))
        (pss_cons (ps_if (PW.pt (pw_or (pt_cmpR op_eq (pv 1) (pe_glob (v := .int 15) (by rfl) h15 ⟨_, rfl⟩) (nomark _))
            (pw_or1 (pt_not (pt_val (C8.pe_c C hr (Nat.le_refl _) (by rfl) (pa_cons (pv 2) (pa_cons pe_int (pa_cons (pe_glob (v := .int 60) (by rfl) h60 ⟨_, rfl⟩) pa_nil)))))))))
            (pss_one (ps_ret (pv 1))) pss_nil)
          (pss_one (ps_if (PW.pt (pw_and (pt_cmpR op_gt (pv 1) pe_int (nomark _)) (pw_and1 (pt_cmpR op_le (pv 2) (pe_ix ix_tup (pv 0) (pe_op op_sub (pv 1) pe_int) (fun _ _ => rfl)) (nomark _)))))
            (pss_one (ps_ret (pv 1))) pss_nil))))
      (pss_one (ps_ret pe_non)), ?_⟩
    refine ⟨_, rfl, a, cv L, rfl, hA, fun i m σ H3 => ∃ y1 y2, σ = [some (.ref a), y1, y2] ∧ i + m = L.length ∧ Same H H3, ⟨L.length, none, none, rfl, by omega, Same.refl H⟩, ?_⟩
    rintro i m σ H3 ⟨y1, y2, rfl, em, sm⟩
    have hA3 : SqT K H3 a (cv L) := seqT sm hA
    by_cases hi : i < L.length
    · have gi : (cv L)[i]? = some (.int (L[i] : Nat)) := cv_at (List.getElem?_eq_getElem hi)
      refine .inr ⟨⟨_, _, hA3, gi⟩, fun σ' H' => ∃ y1 y2, σ' = [some (.ref a), y1, y2] ∧ Same H H', ?_, ?_⟩
      · rintro σ' H' ⟨z1, z2, e, sm'⟩
        exact ⟨m - 1, by omega, z1, z2, e, by omega, sm'⟩
      · rintro v H' ⟨T, x1, rfl, nT, rfl, fx⟩
        have ex : x1 = .int (L[i] : Nat) := Option.some.inj ((fx _ hA3).symm.trans gi)
        subst ex
        have smT : Same H3 (upd H3 T (.tup [.int (i : Nat), .int (L[i] : Nat)])) := same_new nT
        refine ⟨T, _, rfl, .inl (.inl upd_same), rfl, _, _, rfl, _, [], rfl, rfl, ?_⟩
        have hr2 := hL.rng _ (List.getElem_mem hi)
        have h15n : (i : Int) ≠ 15 := by
          have := hL.few
          omega
        refine ⟨_, rfl, rfl, _, rfl, ?_⟩
        rw [V.int_ne h15n]
        refine iteF ⟨_, rfl, _, 1, 60, rfl, by omega, by omega, true, rfl, iteF ?_⟩
        refine ⟨_, rfl, _, _, rfl, rfl, _, rfl, ?_⟩
        refine ite2 (fun e => ?_) (fun e => ?_)
        · have hpos : (0 : Int) < (i : Int) := of_decide_eq_true e
          obtain ⟨j, rfl⟩ : ∃ j, i = j + 1 := ⟨i - 1, by omega⟩
          have gj : (cv L)[j]? = some (.int (L[j] : Nat)) := cv_at (List.getElem?_eq_getElem (by omega))
          have hlt : L[j] < L[j + 1] := List.pairwise_iff_getElem.mp hL.asc j (j + 1) (by omega) hi (by omega)
          refine ⟨_, rfl, _, rfl, _, rfl, _, _, rfl, rfl, a, _, _, _, rfl, rfl, seqT smT hA3, at_of (j := j) (by omega) gj, _, _, rfl, rfl, _, rfl, ?_⟩
          have hle : ¬ ((L[j + 1] : Nat) : Int) ≤ ((L[j] : Nat) : Int) := by omega
          show if (decide (((L[j + 1] : Nat) : Int) ≤ ((L[j] : Nat) : Int))) = true then _ else _
          rw [decide_eq_false hle]
          exact iteF ⟨_, _, rfl, sm.trans smT⟩
        · exact iteF ⟨_, _, rfl, sm.trans smT⟩
    · exact .inl ⟨⟨_, hA3, by rw [cv_len]; omega⟩, q _ sm⟩
end
end Mk

/-! Data that are shown: none too long. -/
namespace Mk
open PySem PySem.Spec PyProof.Rows L2 Mint
structure Fine (d : PyData) (k b : Nat) : Prop where
  sh : d.showable = true
  nd : d.hasDict = false
  dp : d.depth ≤ k
  ls : d.leavesShort 13 = true
  bk : d.bulk ≤ b
  cl : d.canLay0 = true
theorem Fine.non {k b : Nat} : Fine .none k b := ⟨rfl, rfl, Nat.zero_le _, rfl, Nat.zero_le _, rfl⟩
theorem Fine.int {i : Int} {k b : Nat} (h : i.natAbs < 10 ^ 12) : Fine (.int i) k b := by
  refine ⟨?_, by simp only [PyData.hasDict], by simp only [PyData.depth]; exact Nat.zero_le _, ?_, by simp only [PyData.bulk]; exact Nat.zero_le _, by simp only [PyData.canLay0]⟩
  · simp only [PyData.showable, decide_eq_true_eq]
    by_cases h0 : i.natAbs = 0
    · rw [h0]
      decide
    · exact (Nat.log2_lt h0).mpr (Nat.lt_of_lt_of_le h (by
        have : (10 : Nat) ^ 12 ≤ 2 ^ 40 := by decide
        exact Nat.le_trans this (Nat.pow_le_pow_right (by decide) (by decide))))
  · simp only [PyData.leavesShort, decide_eq_true_eq]
    have e := int_text_length_le10 (a := i) (k := 12) (by decide) h
    simp only [PyData.shown]
    rw [PySem.ofString_length]
    exact e
structure FineAll (ds : List PyData) (k b : Nat) : Prop where
  sh : PyData.showableAll ds = true
  nd : PyData.hasDictAll ds = false
  dp : PyData.depthAll ds ≤ k
  ls : PyData.leavesShortAll 13 ds = true
  bk : PyData.bulkAll ds ≤ (b + 1) * ds.length
  cl : PyData.canLayAll0 ds = true
theorem fineAll {k b : Nat} : ∀ {ds : List PyData}, (∀ d ∈ ds, Fine d k b) → FineAll ds k b
  | [], _ => ⟨by simp only [PyData.showableAll], by simp only [PyData.hasDictAll], by simp only [PyData.depthAll]; exact Nat.zero_le _, by simp only [PyData.leavesShortAll], by simp only [PyData.bulkAll]; exact Nat.zero_le _, by simp only [PyData.canLayAll0]⟩
  | d :: ds, h => by
    have h1 := h d List.mem_cons_self
    have h2 := fineAll (ds := ds) fun x hx => h x (List.mem_cons_of_mem _ hx)
    refine ⟨?_, ?_, ?_, ?_, ?_, ?_⟩
    · simp only [PyData.showableAll, h1.sh, h2.sh, Bool.and_self]
    · simp only [PyData.hasDictAll, h1.nd, h2.nd, Bool.or_self]
    · simp only [PyData.depthAll]
      exact Nat.max_le.mpr ⟨h1.dp, h2.dp⟩
    · simp only [PyData.leavesShortAll, h1.ls, h2.ls, Bool.and_self]
    · simp only [PyData.bulkAll, List.length_cons]
      have a := h1.bk
      have c := h2.bk
      rw [Nat.mul_succ]
      omega
    · simp only [PyData.canLayAll0, h1.cl, h2.cl, Bool.and_self]
theorem Fine.tup {ds : List PyData} {k b : Nat} (h : ∀ d ∈ ds, Fine d k b) : Fine (.tuple ds) (k + 1) ((b + 1) * ds.length) := by
  have f := fineAll h
  exact ⟨by simp only [PyData.showable, f.sh], by simp only [PyData.hasDict, f.nd], by simp only [PyData.depth]; have := f.dp; omega, by simp only [PyData.leavesShort, f.ls], by simp only [PyData.bulk]; exact f.bk, by simp only [PyData.canLay0, f.cl]⟩
theorem Fine.lst {ds : List PyData} {k b : Nat} (h : ∀ d ∈ ds, Fine d k b) : Fine (.list ds) (k + 1) ((b + 1) * ds.length) := by
  have f := fineAll h
  exact ⟨by simp only [PyData.showable, f.sh], by simp only [PyData.hasDict, f.nd], by simp only [PyData.depth]; have := f.dp; omega, by simp only [PyData.leavesShort, f.ls], by simp only [PyData.bulk]; exact f.bk, by simp only [PyData.canLay0, f.cl]⟩
theorem Fine.mono {d : PyData} {k b k' b' : Nat} (f : Fine d k b) (h : k ≤ k') (h' : b ≤ b') : Fine d k' b' := ⟨f.sh, f.nd, Nat.le_trans f.dp h, f.ls, Nat.le_trans f.bk h', f.cl⟩
theorem Fine.fits {d : PyData} {k b : Nat} (f : Fine d k b) (h : b ≤ 2 ^ 20) : d.shown.length ≤ sizeLine := PyData.shown_fits_bulk (B := 13) (by decide) (by decide) f.ls (Nat.le_trans f.bk h)
theorem Fine.shaped {d : PyData} {k b : Nat} (f : Fine d k b) (h : k ≤ 64) : SeqAt.shaped d = true := by
  unfold SeqAt.shaped
  rw [f.cl, decide_eq_true (Nat.le_trans f.dp h)]
  rfl
/-! ### tables and coins as data -/
def od : Option Int → PyData
  | none => .none
  | some n => .int n
section
variable {K : PySem.W.Frag} {H : Hp}
theorem dp_ov (o : Option Int) : Dp K H (ov o) (od o) := by
  cases o with
  | none => exact .non
  | some n => exact .int n
theorem dp_tab : ∀ t : Tab, DpAll K H (t.map ov) (t.map od)
  | [] => .nil
  | o :: t => .cons (dp_ov o) (dp_tab t)
theorem dp_ints : ∀ ns : List Int, DpAll K H (ns.map V.int) (ns.map PyData.int)
  | [] => .nil
  | n :: ns => .cons (.int n) (dp_ints ns)
theorem dp_cv : ∀ L : List Nat, DpAll K H (cv L) (L.map fun c : Nat => PyData.int (c : Int))
  | [] => .nil
  | c :: L => .cons (.int _) (dp_cv L)
end
end Mk

namespace Mk
open PySem PySem.Spec PyProof.Rows L2 Mint
section
variable {P : Program} {w : World} {K : PySem.W.Frag} {mg : Str → Option Value} {base : Heap}
theorem coins_fine {L : List Nat} (h : Coins L) : Fine (.tuple (L.map fun c : Nat => PyData.int (c : Int))) 1 (1 * L.length) := by
  have := Fine.tup (ds := L.map fun c : Nat => PyData.int (c : Int)) (k := 0) (b := 0) fun d hd => by
    obtain ⟨c, hc, rfl⟩ := List.mem_map.1 hd
    refine Fine.int ?_
    have := (h.rng c hc).2
    rw [Int.natAbs_natCast]
    exact Nat.lt_of_le_of_lt this (by decide)
  rw [List.length_map] at this
  exact this
/-! ### Lot.__init__ -/
def spInit (C : Addr) : Sp := fun vs H Q _ => ∃ p dx a L, vs = [.ref p, .ref a] ∧ H p = some (.ins C dx []) ∧ H a = some (.tup (cv L)) ∧ Coins L ∧
  ∀ H', (∀ b o, b ≠ p → H b = some o → H' b = some o) → H' p = some (.ins C dx [("kinds", .ref a)]) → Q .non H'
theorem scInit : FnScope ["self", "coins", "wrong"] ["self", "coins"] (defScope sInit) := ⟨rfl, rfl, rfl, by decide +kernel, rfl, by decide +kernel, by decide +kernel⟩
theorem ok_init {f C : Addr} {fd : FuncData} (F : L2.Fun K "__init__" "Lot.__init__" sInit f fd) (N : Nm mg) (cl : Cls K C) (nk : NoAttr K C "kinds") (W : C8.Cal P w K mg base 3 "first_wrong" (spWrong K) []) : FnOk P w K mg base CX0 4 f fd ["self", "coins"] (spInit C) := by
  refine F.ok scInit (fun vs H Q E h => ?_) (fun cdv A outer s H vs Q E hr h => ?_)
  · obtain ⟨p, dx, a, L, rfl, _⟩ := h
    rfl
  · obtain ⟨p, dx, a, L, rfl, hp, ha, hL, q⟩ := h
    refine ⟨_, pss_cons (ps_if (PW.pt (pw_or (pt_not (pt_val (pe_callB call_isi (by rfl) N.isinstance (by decide +kernel) (pa_cons (pv 1) (pa_cons (pe_bltn (v := .ty "tuple") (by rfl) N.tuple (by decide +kernel) rfl) pa_nil)))))
        (pw_or1 (pt_cmpR (op_eqD hr.units) (pv 1) (pe_tup pa_nil) (nomark _))))) (pss_one ps_never) pss_nil)
      (pss_cons (ps_set (i := 2) scInit.nd rfl (.inl rfl) (C8.pe_c W hr (Nat.le_refl _) (by rfl) (pa_cons (pv 1) pa_nil)))
      (pss_cons (ps_if (pt_cmpR op_notN (pv 2) pe_non (nomark _)) (pss_one ps_never) pss_nil)
      (pss_one (ps_fld (pv 0) (pv 1) rfl)))), ?_⟩
    refine ⟨_, rfl, _, _, .type "tuple", .type "tuple", true, rfl, .ty "tuple", .base (.tup ha), kit_ty (by decide +kernel), true, rfl, iteF ?_⟩
    refine ⟨_, rfl, Nat.zero_le _, fun o no => ?_⟩
    have s1 : Same H (upd H o (.tup [])) := same_new no
    refine ⟨.tuple (L.map fun c : Nat => PyData.int (c : Int)), .tuple [], .tup (SqT.of (s1 _ _ ha)) (dp_cv L), .tup (SqT.of upd_same) .nil, (coins_fine hL).shaped (by decide), by decide +kernel, _, rfl, ?_⟩
    have e0 : PyData.eqv (.tuple (L.map fun c : Nat => PyData.int (c : Int))) (.tuple []) = false := by
      cases L with
      | nil => exact absurd rfl hL.ne
      | cons c r =>
        rw [List.map_cons]
        simp only [PyData.eqvAll, PyData.eqv]
    rw [e0]
    refine iteF ?_
    refine ⟨_, rfl, a, L, rfl, SqT.of (s1 _ _ ha), hL, fun H2 s2 => ?_⟩
    refine ⟨_, rfl, rfl, _, rfl, iteF ?_⟩
    refine ⟨_, rfl, _, rfl, p, C, dx, _, rfl, s2 _ _ (s1 _ _ hp), cl, nk, by decide, ?_⟩
    exact q _ (fun b x hb e => by rw [upd_ne hb]; exact s2 _ _ (s1 _ _ e)) upd_same
end
end Mk

namespace Mk
open PySem PySem.Spec PyProof.Rows L2 Mint
section
variable {P : Program} {w : World} {K : PySem.W.Frag} {mg : Str → Option Value} {base : Heap}
/-! ### eased -/
def spEased : Sp := fun vs H Q _ => ∃ a G s c t, vs = [.ref a, .int (s : Nat), .int c] ∧ H a = some (.lst (t.map ov)) ∧ t.length = G ∧ 0 < G ∧ G ≤ 1000 ∧ Q .non (upd H a (.lst ((Mint.eased G s c t).map ov)))
theorem scEased : FnScope ["costs", "step", "cost", "size", "shared", "start", "rest", "turn", "later"] ["costs", "step", "cost"] (defScope sEased) := ⟨rfl, rfl, rfl, by decide +kernel, rfl, by decide +kernel, by decide +kernel⟩
theorem ix_tab {t : Tab} {r : Nat} (h : r < t.length) : atI (t.map ov) ((r : Nat) : Int) = some (ov (t.getD r none)) := atI_nat (ov_get h)
theorem ixN_natx {n j : Nat} (hj : j < n) : ixN n (j : Int) = some j := by
  unfold ixN
  rw [if_pos (Int.natCast_nonneg j), if_pos (Int.ofNat_lt.mpr hj)]
  simp
theorem ok_eased {f : Addr} {fd : FuncData} (F : L2.Fun K "eased" "eased" sEased f fd) (N : Nm mg) (D : C8.Cal P w K mg base 1 "common_divisor" spDiv []) : FnOk P w K mg base CX0 2 f fd ["costs", "step", "cost"] spEased := by
  refine F.ok scEased (fun vs H Q E h => ?_) (fun cdv A outer s0 H vs Q E hr h => ?_)
  · obtain ⟨a, G, s, c, t, rfl, _⟩ := h
    rfl
  · obtain ⟨a, G, s, c, t, rfl, ha, hl, hG, hG2, q⟩ := h
    refine ⟨_, pss_cons (ps_set (i := 3) scEased.nd rfl (.inl rfl) (pe_callB call_len_seq (by rfl) N.len PySem.boot_len (pa_cons (pv 0) pa_nil)))
      (pss_cons (ps_set (i := 4) scEased.nd rfl (.inl rfl) (C8.pe_c D hr (Nat.le_refl _) (by rfl) (pa_cons (pv 1) (pa_cons (pv 3) pa_nil))))
      (pss_one (ps_for PassesOwn.never rfl (pi_range1 (by rfl) N.range (pa_cons (pv 4) pa_nil)) (pg_name (i := 5) scEased.nd rfl (.inl rfl))
        (pss_cons (ps_set (i := 6) scEased.nd rfl (.inl rfl) (pv 5))
        (pss_one (ps_for PassesOwn.never rfl (pi_range1 (by rfl) N.range (pa_cons (pe_op op_mul pe_int (pe_op op_fdivN (pv 3) (pv 4))) pa_nil)) (pg_name (i := 7) scEased.nd rfl (.inl rfl))
          (pss_cons (ps_set (i := 8) scEased.nd rfl (.inl rfl) (pe_op op_modN (pe_callTy call_int1 (by rfl) N.int (by decide +kernel) (pa_cons (pe_op op_add (pv 6) (pv 1)) pa_nil)) (pv 3)))
          (pss_cons (ps_if (PW.pt (pw_and (pt_cmpR op_notN (pe_ix ix_list (pv 0) (pv 6) (fun _ _ => rfl)) pe_non (nomark _))
              (pw_and1 (PW.pt (pw_or (pt_cmpR op_isN (pe_ix ix_list (pv 0) (pv 8) (fun _ _ => rfl)) pe_non (nomark _))
                (pw_or1 (pt_cmpR op_lt (pe_op op_add (pe_ix ix_list (pv 0) (pv 6) (fun _ _ => rfl)) (pv 2)) (pe_ix ix_list (pv 0) (pv 8) (fun _ _ => rfl)) (nomark _))))))))
              (pss_one (ps_asg (pe_op op_add (pe_ix ix_list (pv 0) (pv 6) (fun _ _ => rfl)) (pv 2)) (pg_sub (pv 0) (pv 8) set_list))) pss_nil)
          (pss_one (ps_set (i := 6) scEased.nd rfl (.inl rfl) (pv 8))))))))))), ?_⟩
    have hg : 0 < Nat.gcd s G := Nat.gcd_pos_of_pos_right _ hG
    have hgG : Nat.gcd s G ≤ G := Nat.le_of_dvd hG (Nat.gcd_dvd_right _ _)
    have hm : G / Nat.gcd s G ≤ G := Nat.div_le_self _ _
    refine ⟨_, rfl, a, _, rfl, .inl (SqL.of ha), ?_⟩
    have e1 : (t.map ov).length = G := by rw [List.length_map, hl]
    rw [e1]
    refine ⟨_, rfl, _, rfl, s, G, rfl, ?_⟩
    refine ⟨_, rfl, (Nat.gcd s G : Nat), rfl, by omega, by omega, ?_⟩
    rw [Int.toNat_natCast]
    refine for_range (fun k σ H' => ∃ y5 y6 y7 y8, σ = [some (.ref a), some (.int (s : Nat)), some (.int c), some (.int (G : Nat)), some (.int (Nat.gcd s G : Nat)), y5, y6, y7, y8] ∧ H' = upd H a (.lst ((easeN G s c (2 * (G / Nat.gcd s G)) t k).map ov)))
      ⟨none, none, none, none, rfl, (upd_id ha).symm⟩ ?_ ?_
    · rintro k σ H' hk ⟨y5, y6, y7, y8, rfl, rfl⟩
      refine ⟨_, rfl, ?_⟩
      have ek : (0 : Int) + (k : Int) = ((k : Nat) : Int) := Int.zero_add _
      rw [ek]
      have ed : Int.fdiv (G : Int) ((Nat.gcd s G : Nat) : Int) = ((G / Nat.gcd s G : Nat) : Int) := by
        rw [Int.fdiv_eq_ediv_of_nonneg _ (Int.natCast_nonneg _), Int.natCast_ediv]
      refine ⟨_, rfl, _, rfl, _, _, rfl, rfl, ⟨by omega, by omega⟩, _, _, rfl, rfl, .inl ⟨by decide, by decide⟩, ?_⟩
      have hj0 : (0 : Int) ≤ ((G / Nat.gcd s G : Nat) : Int) := Int.natCast_nonneg _
      have hj00 : ((G / Nat.gcd s G : Nat) : Int) ≤ (G : Int) := Int.ofNat_le.mpr hm
      have hj1 : -(2 ^ 62) ≤ 2 * ((G / Nat.gcd s G : Nat) : Int) := by
        clear ed
        generalize ((G / Nat.gcd s G : Nat) : Int) = z at *
        omega
      have hj2 : 2 * ((G / Nat.gcd s G : Nat) : Int) < 2 ^ 62 := by
        clear ed
        generalize ((G / Nat.gcd s G : Nat) : Int) = z at *
        omega
      have hj3 : [V.int (2 * Int.fdiv (G : Int) ((Nat.gcd s G : Nat) : Int))] = [V.int (2 * ((G / Nat.gcd s G : Nat) : Int))] := by rw [ed]
      refine ⟨2 * ((G / Nat.gcd s G : Nat) : Int), hj3, hj1, hj2, ?_⟩
      have e2 : (2 * ((G / Nat.gcd s G : Nat) : Int)).toNat = 2 * (G / Nat.gcd s G) := by
        rw [show (2 * ((G / Nat.gcd s G : Nat) : Int)) = ((2 * (G / Nat.gcd s G) : Nat) : Int) from (Int.natCast_mul 2 _).symm, Int.toNat_natCast]
      rw [e2]
      generalize hT : easeN G s c (2 * (G / Nat.gcd s G)) t k = T
      have hTl : T.length = G := by rw [← hT, easeN_len, hl]
      refine for_range (fun i σ H' => ∃ y7 y8, σ = [some (.ref a), some (.int (s : Nat)), some (.int c), some (.int (G : Nat)), some (.int (Nat.gcd s G : Nat)), some (.int (k : Nat)), some (.int ((k + i * s) % G : Nat)), y7, y8] ∧ H' = upd H a (.lst ((spin G s c k T i).map ov)))
        ⟨y7, y8, ?_, rfl⟩ ?_ ?_
      · have : (k + 0 * s) % G = k := by
          rw [Nat.zero_mul, Nat.add_zero]
          exact Nat.mod_eq_of_lt (by omega)
        rw [this]
        rfl
      · rintro i σ H' hi ⟨y7, y8, rfl, rfl⟩
        generalize hS : spin G s c k T i = S
        have hSl : S.length = G := by rw [← hS, spin_len, hTl]
        have hr1 : (k + i * s) % G < S.length := by rw [hSl]; exact Nat.mod_lt _ hG
        have hr2 : (k + (i + 1) * s) % G < S.length := by rw [hSl]; exact Nat.mod_lt _ hG
        have ef : Int.fmod (((k + i * s) % G : Nat) + (s : Nat) : Int) (G : Int) = ((k + (i + 1) * s) % G : Nat) := by
          rw [Int.fmod_eq_emod_of_nonneg _ (Int.natCast_nonneg _), ← Int.natCast_add, ← Int.natCast_emod, Nat.mod_add_mod, Nat.succ_mul, Nat.add_assoc]
        refine ⟨_, rfl, _, rfl, _, _, rfl, rfl, .inl ⟨_, rfl, ?_⟩⟩
        refine ⟨_, rfl, _, _, rfl, rfl, by omega, ?_⟩
        show tSeq _ _ _ [some (.ref a), some (.int (s : Nat)), some (.int c), some (.int (G : Nat)), some (.int (Nat.gcd s G : Nat)), some (.int (k : Nat)), some (.int ((k + i * s) % G : Nat)), some (.int (0 + (i : Nat))), some (.int (Int.fmod (((k + i * s) % G : Nat) + (s : Nat) : Int) (G : Int)))] _
        rw [ef]
        have hs1 : spin G s c k T (i + 1) = relax S ((k + i * s) % G) ((k + (i + 1) * s) % G) c := by
          rw [spin, hS]
        generalize (k + i * s) % G = r1 at *
        generalize (k + (i + 1) * s) % G = r2 at *
        have hA : ∀ {t' : Tab}, SqL K (upd H a (.lst (t'.map ov))) a (t'.map ov) := SqL.of upd_same
        -- costs[rest] is not None
        refine ⟨_, rfl, _, rfl, a, _, _, _, rfl, rfl, hA, ix_tab hr1, rfl, _, rfl, ?_⟩
        rw [ov_none]
        cases ho : S.getD r1 none with
        | none =>
          refine iteF (iteF ⟨_, rfl, ?_⟩)
          have e3 : relax S r1 r2 c = S := by
            unfold relax
            rw [ho]
          exact ⟨_, _, rfl, by rw [hs1, e3]⟩
        | some x =>
          refine iteT ?_
          -- costs[later] is None or ..
          refine ⟨_, rfl, _, rfl, a, _, _, _, rfl, rfl, hA, ix_tab hr2, rfl, _, rfl, ?_⟩
          rw [ov_none]
          cases ho2 : S.getD r2 none with
          | none =>
            refine iteT (iteT ?_)
            refine ⟨_, rfl, _, rfl, a, _, _, _, rfl, rfl, hA, ix_tab hr1, _, rfl, ?_⟩
            rw [ho]
            refine ⟨x, c, rfl, rfl, _, rfl, _, rfl, a, _, _, r2, rfl, rfl, upd_same, ?_, ?_⟩
            · rw [List.length_map]
              exact ixN_natx hr2
            · refine ⟨_, rfl, _, _, rfl, ?_⟩
              rw [upd_upd, hs1]
              unfold relax
              rw [ho]
              dsimp only
              rw [ho2, ← ov_set]
              rfl
          | some y =>
            refine iteF ?_
            refine ⟨_, rfl, _, rfl, a, _, _, _, rfl, rfl, hA, ix_tab hr1, _, rfl, ?_⟩
            rw [ho]
            refine ⟨x, c, rfl, rfl, _, rfl, _, rfl, a, _, _, _, rfl, rfl, hA, ix_tab hr2, ?_⟩
            rw [ho2]
            refine ⟨_, _, rfl, rfl, _, rfl, ?_⟩
            show if decide (x + c < y) = true then _ else _
            refine ite2 (fun e => ?_) (fun e => ?_)
            · have hlt : x + c < y := of_decide_eq_true e
              refine ⟨_, rfl, _, rfl, a, _, _, _, rfl, rfl, hA, ix_tab hr1, _, rfl, ?_⟩
              rw [ho]
              refine ⟨x, c, rfl, rfl, _, rfl, _, rfl, a, _, _, r2, rfl, rfl, upd_same, ?_, ?_⟩
              · rw [List.length_map]
                exact ixN_natx hr2
              · refine ⟨_, rfl, _, _, rfl, ?_⟩
                rw [upd_upd, hs1]
                unfold relax
                rw [ho]
                dsimp only
                rw [ho2]
                dsimp only
                rw [if_pos hlt, ← ov_set]
                rfl
            · have hge : ¬ x + c < y := fun z => e (decide_eq_true z)
              refine ⟨_, rfl, _, _, rfl, ?_⟩
              rw [hs1]
              unfold relax
              rw [ho]
              dsimp only
              rw [ho2]
              dsimp only
              rw [if_neg hge]
      · rintro σ H' ⟨z7, z8, rfl, rfl⟩
        refine ⟨_, _, _, _, rfl, ?_⟩
        rw [easeN, hT]
    · rintro σ H' ⟨y5, y6, y7, y8, rfl, rfl⟩
      exact q
end
end Mk

namespace Mk
open PySem PySem.Spec PyProof.Rows L2 Mint
/-! ### steps in the heap: tuples -/
def StepsAt (H : Hp) : List Addr → Steps → Prop
  | [], [] => True
  | q :: qs, (s, c) :: S => H q = some (.tup [.int (s : Nat), .int c]) ∧ StepsAt H qs S
  | _, _ => False
theorem StepsAt.len {H : Hp} : ∀ {qs : List Addr} {S : Steps}, StepsAt H qs S → qs.length = S.length
  | [], [], _ => rfl
  | q :: qs, (s, c) :: S, h => by
    rw [List.length_cons, List.length_cons, StepsAt.len h.2]
  | [], _ :: _, h => h.elim
  | _ :: _, [], h => h.elim
theorem StepsAt.mono {H H' : Hp} (k : ∀ b xs, H b = some (.tup xs) → H' b = some (.tup xs)) : ∀ {qs : List Addr} {S : Steps}, StepsAt H qs S → StepsAt H' qs S
  | [], [], _ => trivial
  | q :: qs, (s, c) :: S, h => ⟨k _ _ h.1, StepsAt.mono k h.2⟩
  | [], _ :: _, h => h.elim
  | _ :: _, [], h => h.elim
theorem StepsAt.append {H : Hp} : ∀ {qs : List Addr} {S : Steps} {rs : List Addr} {T : Steps}, StepsAt H qs S → StepsAt H rs T → StepsAt H (qs ++ rs) (S ++ T)
  | [], [], _, _, _, h => h
  | q :: qs, (s, c) :: S, _, _, h, h' => ⟨h.1, StepsAt.append h.2 h'⟩
  | [], _ :: _, _, _, h, _ => h.elim
  | _ :: _, [], _, _, h, _ => h.elim
theorem StepsAt.get {H : Hp} : ∀ {qs : List Addr} {S : Steps} {i : Nat} {q : Addr}, StepsAt H qs S → qs[i]? = some q → ∃ s c, S[i]? = some (s, c) ∧ H q = some (.tup [.int (s : Nat), .int c])
  | q :: qs, (s, c) :: S, 0, q', h, e => by
    have e' : q = q' := Option.some.inj e
    subst e'
    exact ⟨s, c, rfl, h.1⟩
  | q :: qs, (s, c) :: S, i + 1, q', h, e => StepsAt.get (i := i) h.2 e
  | [], [], _, _, _, e => nomatch e
  | [], _ :: _, _, _, h, _ => h.elim
  | _ :: _, [], _, _, h, _ => h.elim
theorem easeAll_append (G : Nat) : ∀ (A B : Steps) (t : Tab), easeAll G (A ++ B) t = easeAll G B (easeAll G A t)
  | [], _, _ => rfl
  | (s, c) :: A, B, t => easeAll_append G A B _
theorem easeAll_take {G i s : Nat} {c : Int} {S : Steps} {t : Tab} (h : S[i]? = some (s, c)) : easeAll G (S.take (i + 1)) t = Mint.eased G s c (easeAll G (S.take i) t) := by
  rw [List.take_add_one, h, easeAll_append]
  rfl
theorem flat_rep {α : Type} (x : α) : ∀ n : Nat, (List.replicate n [x]).flatten = List.replicate n x
  | 0 => rfl
  | n + 1 => by
    rw [List.replicate_succ, List.flatten_cons, flat_rep x n, List.replicate_succ]
    rfl
theorem first_ov (G : Nat) : [V.int 0] ++ List.replicate (G - 1) V.non = (first G).map ov := by
  unfold first
  rw [List.map_cons, List.map_replicate]
  rfl
section
variable {P : Program} {w : World} {K : PySem.W.Frag} {mg : Str → Option Value} {base : Heap}
/-! ### least_costs -/
def spCosts (K : PySem.W.Frag) : Sp := fun vs H Q _ => ∃ (G : Nat) (l : Addr) (qs : List Addr) (S : Steps), vs = [.int (G : Nat), .ref l] ∧ SqL K H l (qs.map V.ref) ∧ StepsAt H qs S ∧ (∀ p ∈ S, 0 < p.1) ∧ 0 < G ∧ G ≤ 1000 ∧
  ∀ H' r, Same H H' → H r = none → H' r = some (.lst ((easeAll G S (first G)).map ov)) → Q (.ref r) H'
theorem scCosts : FnScope ["size", "steps", "found", "step", "cost"] ["size", "steps"] (defScope sCosts) := ⟨rfl, rfl, rfl, by decide +kernel, rfl, by decide +kernel, by decide +kernel⟩
theorem ok_costs {f : Addr} {fd : FuncData} (F : L2.Fun K "least_costs" "least_costs" sCosts f fd) (N : Nm mg) (D : C8.Cal P w K mg base 2 "eased" spEased []) : FnOk P w K mg base CX0 3 f fd ["size", "steps"] (spCosts K) := by
  refine F.ok scCosts (fun vs H Q E h => ?_) (fun cdv A outer s0 H vs Q E hr h => ?_)
  · obtain ⟨G, l, qs, S, rfl, _⟩ := h
    rfl
  · obtain ⟨G, l, qs, S, rfl, hl, hS, hpos, hG, hG2, q⟩ := h
    refine ⟨_, pss_cons (ps_set (i := 2) scCosts.nd rfl (.inl rfl) (pe_op op_cat (pe_lst (pa_cons pe_int pa_nil)) (pe_op op_rep (pe_lst (pa_cons pe_non pa_nil)) (pe_op op_sub (pv 0) pe_int))))
      (pss_cons (ps_for PassesOwn.never rfl (pi_list (pv 1)) (pg_tup rfl (pgs_cons (pg_name (i := 3) scCosts.nd rfl (.inl rfl)) (pgs_cons (pg_name (i := 4) scCosts.nd rfl (.inl rfl)) pgs_nil)))
        (pss_one (ps_if (pt_cmpR op_gt (pv 3) pe_int (nomark _)) (pss_one (ps_expr (C8.pe_c D hr (Nat.le_refl _) (by rfl) (pa_cons (pv 2) (pa_cons (pv 3) (pa_cons (pv 4) pa_nil)))))) pss_nil)))
      (pss_one (ps_ret (pv 2)))), ?_⟩
    refine ⟨by show 1 ≤ sizeLine; decide, fun o1 n1 => ?_⟩
    refine ⟨by show 1 ≤ sizeLine; decide, fun o2 n2 => ?_⟩
    have s1 : Same H (upd H o1 (.lst [.int 0])) := same_new n1
    generalize hH1 : upd H o1 (.lst [.int 0]) = H1 at *
    have s2 : Same H1 (upd H1 o2 (.lst [.non])) := same_new n2
    have g1 : H1 o1 = some (.lst [.int 0]) := by rw [← hH1]; exact upd_same
    generalize hH2 : upd H1 o2 (.lst [.non]) = H2 at *
    have g2 : H2 o2 = some (.lst [.non]) := by rw [← hH2]; exact upd_same
    refine ⟨_, rfl, _, _, rfl, rfl, o2, _, _, rfl, rfl, g2, by omega, by omega, ?_, fun o3 n3 => ?_⟩
    · show 1 * ((G : Int) - 1).toNat ≤ sizeLine
      exact Nat.le_of_lt (small (by omega))
    have s3 : Same H2 (upd H2 o3 (.lst (List.replicate ((G : Int) - 1).toNat [V.non]).flatten)) := same_new n3
    generalize hH3 : upd H2 o3 (.lst (List.replicate ((G : Int) - 1).toNat [V.non]).flatten) = H3 at *
    have g3 : H3 o3 = some (.lst (List.replicate (G - 1) V.non)) := by
      rw [← hH3, upd_same, flat_rep, show ((G : Int) - 1).toNat = G - 1 by omega]
    have s03 : Same H H3 := s1.trans (s2.trans s3)
    refine ⟨o1, o3, _, _, rfl, rfl, s3 _ _ (s2 _ _ g1), g3, ?_, fun r nr => ?_⟩
    · rw [List.length_replicate]
      exact Nat.le_of_lt (small (by show 1 + (G - 1) ≤ _; omega))
    have er : [V.int 0] ++ List.replicate (G - 1) V.non = (first G).map ov := first_ov G
    rw [er]
    have nr0 : H r = none := s03.free nr
    have same_r : ∀ {o : HO}, Same H (upd H3 r o) := fun {o} => s03.trans (same_new nr)
    refine ⟨_, rfl, l, rfl, ⟨_, same_r.seq hl⟩, ?_⟩
    refine for_list (K := K) (a := l) (xs := qs.map V.ref) (fun i σ H' => ∃ y3 y4, σ = [some (.int (G : Nat)), some (.ref l), some (.ref r), y3, y4] ∧ H' = upd H3 r (.lst ((easeAll G (S.take i) (first G)).map ov)))
      ⟨none, none, rfl, rfl⟩ (fun i σ H' _ hP => ?_) ?_ ?_
    · obtain ⟨_, _, _, rfl⟩ := hP
      exact same_r.seq hl
    · rintro i x σ H' hx ⟨y3, y4, rfl, rfl⟩
      rw [List.getElem?_map] at hx
      cases hq : qs[i]? with
      | none =>
        rw [hq] at hx
        cases hx
      | some qa =>
        rw [hq] at hx
        cases hx
        obtain ⟨st, c, h1, h2⟩ := hS.get hq
        have h0 : 0 < st := hpos _ (List.mem_of_getElem? h1)
        refine ⟨qa, _, rfl, SqT.of (same_r _ _ h2), rfl, _, _, rfl, _, [], rfl, rfl, ?_⟩
        refine ⟨_, rfl, _, _, rfl, rfl, _, rfl, ?_⟩
        have hp : (0 : Int) < (st : Nat) := by omega
        show if decide ((0 : Int) < ((st : Nat) : Int)) = true then _ else _
        rw [decide_eq_true hp]
        refine iteT ⟨_, rfl, _, rfl, _, rfl, r, G, st, c, _, rfl, upd_same, ?_, hG, hG2, ?_⟩
        · rw [easeAll_len, first_len hG]
        · rw [upd_upd]
          exact ⟨_, _, rfl, by rw [easeAll_take h1]⟩
    · rintro σ H' ⟨y3, y4, rfl, rfl⟩
      refine ⟨_, rfl, q _ r same_r nr0 ?_⟩
      rw [upd_same, List.length_map, hS.len, List.take_length]
end
end Mk

namespace Mk
open PySem PySem.Spec PyProof.Rows L2 Mint
theorem cv_snoc (C : List Nat) (G : Nat) : cv (C ++ [G]) = cv C ++ [.int (G : Nat)] := by
  unfold cv
  rw [List.map_append]
  rfl
/-- coins[:-1] -/
theorem cut_last (xs : List V) (x : V) : cutV (xs ++ [x]) none (some (-1)) = xs := by
  unfold cutV
  rw [HT.sIx_none, List.drop_zero]
  have e : HT.sIx (xs ++ [x]).length (xs ++ [x]).length (some (-1)) - 0 = xs.length := by
    unfold HT.sIx
    simp
    omega
  rw [e, List.take_left']
  rfl
theorem cut_part (xs : List V) (x : V) : ¬ (HT.sIx (xs ++ [x]).length 0 none = 0 ∧ HT.sIx (xs ++ [x]).length (xs ++ [x]).length (some (-1)) = (xs ++ [x]).length) := by
  rintro ⟨_, h⟩
  have e : HT.sIx (xs ++ [x]).length (xs ++ [x]).length (some (-1)) = xs.length := by
    unfold HT.sIx
    simp
    omega
  rw [e, List.length_append] at h
  simp at h
section
variable {P : Program} {w : World} {K : PySem.W.Frag} {mg : Str → Option Value} {base : Heap}
/-! ### least_moves -/
def spMoves (K : PySem.W.Frag) : Sp := fun vs H Q _ => ∃ (a : Addr) (C : List Nat) (G : Nat), vs = [.ref a] ∧ SqT K H a (cv (C ++ [G])) ∧ Lots C G ∧
  ∀ H' r, Same H H' → H r = none → H' r = some (.lst ((table G C).map ov)) → Q (.ref r) H'
theorem scMoves : FnScope ["coins", "greatest", "steps", "coin"] ["coins"] (defScope sMoves) := ⟨rfl, rfl, rfl, by decide +kernel, rfl, by decide +kernel, by decide +kernel⟩
theorem ok_moves {f : Addr} {fd : FuncData} (F : L2.Fun K "least_moves" "least_moves" sMoves f fd) (D : C8.Cal P w K mg base 3 "least_costs" (spCosts K) []) : FnOk P w K mg base CX0 4 f fd ["coins"] (spMoves K) := by
  refine F.ok scMoves (fun vs H Q E h => ?_) (fun cdv A outer s0 H vs Q E hr h => ?_)
  · obtain ⟨a, C, G, rfl, _⟩ := h
    rfl
  · obtain ⟨a, C, G, rfl, ha, hL, q⟩ := h
    refine ⟨_, pss_cons (ps_set (i := 1) scMoves.nd rfl (.inr rfl) (pe_ix ix_tup (pv 0) (pe_un un_neg pe_int) (fun _ _ => rfl)))
      (pss_cons (ps_setLc (i := 2) (own := [("coin", 3)]) (g := gName 3) (tt := tYes) rfl scMoves.nd rfl rfl (sw_true rfl rfl rfl (by decide +kernel))
          (pi_tup (pe_slice sl_tup (pv 0) po_none (po_some (pe_un un_neg pe_int)))) (blkOk_by (own := [("coin", 3)]) (N := ["coins", "greatest", "steps", "coin"]) (sc := defScope sMoves) (by decide +kernel))
          (fun _ _ _ _ _ => pg_name (i := 3) scMoves.nd rfl (.inl rfl)) (fun _ _ _ _ _ => pts_nil) (fun _ _ _ _ _ => pe_tup (pa_cons (pv 3) (pa_cons (pe_op op_sub (pv 1) (pv 3)) pa_nil))))
      (pss_one (ps_ret (C8.pe_c D hr (Nat.le_refl _) (by rfl) (pa_cons (pv 1) (pa_cons (pe_op op_cat (pv 2)
        (pe_lc (own := [("coin", 3)]) (g := gName 3) (tt := tYes) rfl scMoves.nd (pi_tup (pe_slice sl_tup (pv 0) po_none (po_some (pe_un un_neg pe_int)))) (blkOk_by (own := [("coin", 3)]) (N := ["coins", "greatest", "steps", "coin"]) (sc := defScope sMoves) (by decide +kernel))
          (fun _ _ _ _ _ => pg_name (i := 3) scMoves.nd rfl (.inl rfl)) (fun _ _ _ _ _ => pts_nil) (fun _ _ _ _ _ => pe_tup (pa_cons (pe_op op_sub (pv 1) (pv 3)) (pa_cons (pe_op op_add (pv 1) (pv 3)) pa_nil))))) pa_nil)))))), ?_⟩
    have hsm := hL.sm
    have ha' : SqT K H a (cv C ++ [.int (G : Nat)]) := by rw [← cv_snoc]; exact ha
    have few := hL.few
    -- greatest = coins[-1]
    refine ⟨_, rfl, 1, rfl, a, _, -1, _, rfl, rfl, ha', atI_last _ _, ?_⟩
    -- steps = [..]
    refine ⟨_, rfl, 1, rfl, -1, rfl, a, _, rfl, ha', cut_part _ _, fun c1 n1 => ?_⟩
    rw [cut_last]
    have s1 : Same H (upd H c1 (.tup (cv C))) := same_new n1
    generalize hH1 : upd H c1 (.tup (cv C)) = H1 at *
    have g1 : H1 c1 = some (.tup (cv C)) := by rw [← hH1]; exact upd_same
    refine ⟨c1, rfl, ⟨_, SqT.of g1⟩, fun D1 nD => ?_⟩
    refine lc_tup (K := K) (a := c1) (xs := cv C) (fun i H' => ∃ qs, Same H1 H' ∧ H1 D1 = none ∧ H' D1 = some (.lst (qs.map V.ref)) ∧ StepsAt H' qs ((C.take i).map fun c : Nat => ((c, (G : Int) - (c : Int)) : Nat × Int)))
      ⟨[], same_new nD, nD, upd_same, trivial⟩ (fun i H' _ hP => ?_) ?_ ?_
    · obtain ⟨qs, sm, _⟩ := hP
      exact seqT sm (SqT.of g1)
    · rintro i x H' hx ⟨qs, sm, _, hD, hS⟩
      obtain ⟨c, hc, rfl⟩ := cv_get hx
      have hcG : c < G := hsm.lt c (List.mem_of_getElem? hc)
      have hi : i < C.length := (List.getElem?_eq_some_iff.mp hc).1
      have hlen : qs.length ≤ 4 := by
        rw [hS.len, List.length_map, List.length_take]
        omega
      refine ⟨rfl, _, rfl, _, rfl, _, rfl, _, _, rfl, rfl, by show 2 ≤ sizeLine; decide, fun T nT => ?_⟩
      have nDT : D1 ≠ T := ne_of_none hD nT
      refine ⟨qs.map V.ref, by rw [upd_ne nDT]; exact hD, by rw [List.length_map]; exact small (by omega), qs ++ [T], ?_, nD, ?_, ?_⟩
      · intro b o e
        rw [upd_ne (ne_of_none e nD), upd_ne (ne_of_none (sm _ _ e) nT)]
        exact sm _ _ e
      · rw [upd_same, List.map_append]
        rfl
      · have kt : ∀ b xs, H' b = some (.tup xs) → (upd (upd H' T (.tup [.int (c : Nat), .int ((G : Int) - (c : Int))])) D1 (.lst (qs.map V.ref ++ [.ref T]))) b = some (.tup xs) := fun b xs e => by
          rw [upd_ne (ne_of e hD (fun z => nomatch z)), upd_ne (ne_of_none e nT)]
          exact e
        rw [List.take_add_one, hc, List.map_append]
        refine StepsAt.append (hS.mono kt) ⟨?_, trivial⟩
        rw [upd_ne nDT.symm, upd_same]
    · rintro H2 ⟨qs1, sm1, _, hD1, hS1⟩
      rw [cv_len, List.take_length] at hS1
      have s02 : Same H H2 := s1.trans sm1
      -- the call
      refine ⟨_, rfl, _, rfl, ?_⟩
      refine ⟨_, rfl, 1, rfl, -1, rfl, a, _, rfl, seqT s02 ha', cut_part _ _, fun c2 n2 => ?_⟩
      rw [cut_last]
      have s2 : Same H2 (upd H2 c2 (.tup (cv C))) := same_new n2
      generalize hH3 : upd H2 c2 (.tup (cv C)) = H3 at *
      have g2 : H3 c2 = some (.tup (cv C)) := by rw [← hH3]; exact upd_same
      refine ⟨c2, rfl, ⟨_, SqT.of g2⟩, fun D2 nD2 => ?_⟩
      refine lc_tup (K := K) (a := c2) (xs := cv C) (fun i H' => ∃ qs, Same H3 H' ∧ H3 D2 = none ∧ H' D2 = some (.lst (qs.map V.ref)) ∧ StepsAt H' qs ((C.take i).map fun c : Nat => ((G - c, (G : Int) + (c : Int)) : Nat × Int)))
        ⟨[], same_new nD2, nD2, upd_same, trivial⟩ (fun i H' _ hP => ?_) ?_ ?_
      · obtain ⟨qs, sm, _⟩ := hP
        exact seqT sm (SqT.of g2)
      · rintro i x H' hx ⟨qs, sm, _, hD, hS⟩
        obtain ⟨c, hc, rfl⟩ := cv_get hx
        have hcG : c < G := hsm.lt c (List.mem_of_getElem? hc)
        have hi : i < C.length := (List.getElem?_eq_some_iff.mp hc).1
        have hlen : qs.length ≤ 4 := by
          rw [hS.len, List.length_map, List.length_take]
          omega
        refine ⟨rfl, _, rfl, _, rfl, _, _, rfl, rfl, _, rfl, _, rfl, _, _, rfl, rfl, by show 2 ≤ sizeLine; decide, fun T nT => ?_⟩
        have nDT : D2 ≠ T := ne_of_none hD nT
        refine ⟨qs.map V.ref, by rw [upd_ne nDT]; exact hD, by rw [List.length_map]; exact small (by omega), qs ++ [T], ?_, nD2, ?_, ?_⟩
        · intro b o e
          rw [upd_ne (ne_of_none e nD2), upd_ne (ne_of_none (sm _ _ e) nT)]
          exact sm _ _ e
        · rw [upd_same, List.map_append]
          rfl
        · have kt : ∀ b xs, H' b = some (.tup xs) → (upd (upd H' T (.tup [.int ((G : Int) - (c : Int)), .int ((G : Int) + (c : Int))])) D2 (.lst (qs.map V.ref ++ [.ref T]))) b = some (.tup xs) := fun b xs e => by
            rw [upd_ne (ne_of e hD (fun z => nomatch z)), upd_ne (ne_of_none e nT)]
            exact e
          rw [List.take_add_one, hc, List.map_append]
          refine StepsAt.append (hS.mono kt) ⟨?_, trivial⟩
          rw [upd_ne nDT.symm, upd_same, Int.ofNat_sub (Nat.le_of_lt hcG)]
      · rintro H4 ⟨qs2, sm2, _, hD2, hS2⟩
        rw [cv_len, List.take_length] at hS2
        have s34 : Same H2 H4 := s2.trans sm2
        refine ⟨D1, D2, _, _, rfl, rfl, s34 _ _ hD1, hD2, ?_, fun r nr => ?_⟩
        · rw [List.length_map, List.length_map, hS1.len, hS2.len, List.length_map, List.length_map]
          exact Nat.le_of_lt (small (by omega))
        have s5 : Same H4 (upd H4 r (.lst (qs1.map V.ref ++ qs2.map V.ref))) := same_new nr
        refine ⟨G, r, qs1 ++ qs2, stepsOf G C, rfl, ?_, ?_, ?_, hsm.pos, ?_, fun H' r2 sm' nr2 hr2 => ?_⟩
        · rw [List.map_append]
          exact SqL.of upd_same
        · have m1 : StepsAt H4 qs1 (C.map fun c : Nat => ((c, (G : Int) - (c : Int)) : Nat × Int)) := hS1.mono fun b xs e => s34 _ _ e
          exact (StepsAt.append m1 hS2).mono fun b xs e => s5 _ _ e
        · intro p hp
          rcases List.mem_append.1 hp with hp | hp
          · obtain ⟨c, hc, rfl⟩ := List.mem_map.1 hp
            exact hL.one c hc
          · obtain ⟨c, hc, rfl⟩ := List.mem_map.1 hp
            have := hsm.lt c hc
            show 0 < G - c
            omega
        · have := hL.top
          omega
        · have all : Same H H' := s02.trans (s34.trans (s5.trans sm'))
          exact q H' r2 all (((s02.trans s34).trans s5).free nr2) hr2
end
end Mk

namespace Mk
open PySem PySem.Spec PyProof.Rows L2 Mint
/-! ### what is told of a table -/
def vals (t : Tab) : List Int := t.filterMap id
theorem vals_take {t : Tab} {i : Nat} {o : Option Int} (h : t[i]? = some o) : vals (t.take (i + 1)) = vals (t.take i) ++ o.toList := by
  unfold vals
  rw [List.take_add_one, h, List.filterMap_append]
  cases o <;> rfl
def restsN (t : Tab) (m : Int) (n : Nat) : List Nat := (List.range n).filter fun i => t.getD i none == some m
theorem restsN_succ (t : Tab) (m : Int) (n : Nat) : restsN t m (n + 1) = restsN t m n ++ (if t.getD n none = some m then [n] else []) := by
  unfold restsN
  rw [List.range_succ, List.filter_append]
  congr 1
  by_cases e : t.getD n none = some m
  · rw [if_pos e, List.filter_cons, if_pos (by rw [e]; exact beq_self_eq_true _)]
    rfl
  · rw [if_neg e, List.filter_cons, if_neg (by simpa using e)]
    rfl
theorem restsN_len (t : Tab) (m : Int) (n : Nat) : (restsN t m n).length ≤ n := by
  have := List.length_filter_le (fun i => t.getD i none == some m) (List.range n)
  rw [List.length_range] at this
  exact this
theorem vals_len (t : Tab) : (vals t).length ≤ t.length := List.length_filterMap_le _ _
theorem ov_eq (o : Option Int) (m : Int) : decide (ov o = V.int m) = decide (o = some m) := by
  cases o with
  | none => rw [decide_eq_false (fun q => nomatch q), decide_eq_false (fun q => nomatch q)]
  | some n =>
    show decide (V.int n = V.int m) = decide (some n = some m)
    by_cases e : n = m
    · subst e
      rw [decide_eq_true rfl, decide_eq_true rfl]
    · rw [decide_eq_false (fun q => e (V.int.inj q)), decide_eq_false (fun q => e (Option.some.inj q))]
theorem scal_ov (o : Option Int) (m : Int) : scal (ov o) (.int m) = true := by
  cases o <;> rfl
section
variable {P : Program} {w : World} {K : PySem.W.Frag} {mg : Str → Option Value} {base : Heap}
/-! ### a lot in the heap -/
def LotAt (K : PySem.W.Frag) (Cl : Addr) (H : Hp) (p : Addr) (C : List Nat) (G : Nat) : Prop := ∃ dx a, H p = some (.ins Cl dx [("kinds", .ref a)]) ∧ SqT K H a (cv (C ++ [G]))
theorem LotAt.mono {Cl p : Addr} {H H' : Hp} {C : List Nat} {G : Nat} (h : LotAt K Cl H p C G) (s : Same H H') : LotAt K Cl H' p C G := by
  obtain ⟨dx, a, h1, h2⟩ := h
  exact ⟨dx, a, s _ _ h1, seqT s h2⟩
/-- the property coins -/
structure CoinsP (P : Program) (w : World) (K : PySem.W.Frag) (mg : Str → Option Value) (base : Heap) (C : Addr) : Prop where
  cl : Cls K C
  ex : ∃ (p g : Addr) (fd : FuncData) (ps : List Str), PropOf K C "coins" p g ∧ FnOk P w K mg base CX0 1 g fd ps (getSp C "kinds") ∧ Binds K fd ps []
theorem pe_coins {X : Cx} {C : Addr} {k : Nat} {e : Expr} {ta : TE} {pos : Pos} (c : CoinsP X.prog X.w X.K X.mg X.base C) (hr : Room k X.A) (hk : 2 ≤ k) (he : PE X e ta) (hab : attributeBase e "coins" X.env (eval e X.env) = eval e X.env := by rfl) :
    PE X (.Attribute e "coins" pos) (tProp C (getSp C "kinds") [] E0 ta) := by
  obtain ⟨p, g, fd, ps, hp, F, b⟩ := c.ex
  exact pe_prop he c.cl hp F (hr.mono hk) b .nil pass0 hab
/-! ### moved_losses -/
def spLosses (K : PySem.W.Frag) (Cl : Addr) : Sp := fun vs H Q _ => ∃ (p : Addr) (C : List Nat) (G : Nat), vs = [.ref p] ∧ LotAt K Cl H p C G ∧ Lots C G ∧
  ∀ H' r, Same H H' → H r = none → H' r = some (.tup ((table G C).map ov)) → Q (.ref r) H'
theorem scLosses : FnScope ["lot"] ["lot"] (defScope sLosses) := ⟨rfl, rfl, rfl, by decide +kernel, rfl, by decide +kernel, by decide +kernel⟩
theorem ok_losses {f Cl : Addr} {fd : FuncData} (F : L2.Fun K "moved_losses" "moved_losses" sLosses f fd) (N : Nm mg) (Ch : C8.Cal P w K mg base 1 "check_lot" (spCheck Cl) []) (M : C8.Cal P w K mg base 4 "least_moves" (spMoves K) []) (Co : CoinsP P w K mg base Cl) :
    FnOk P w K mg base CX0 5 f fd ["lot"] (spLosses K Cl) := by
  refine F.ok scLosses (fun vs H Q E h => ?_) (fun cdv A outer s0 H vs Q E hr h => ?_)
  · obtain ⟨p, C, G, rfl, _⟩ := h
    rfl
  · obtain ⟨p, C, G, rfl, ⟨dx, a, hp, ha⟩, hL, q⟩ := h
    refine ⟨_, pss_cons (ps_expr (C8.pe_c Ch hr (by decide) (by rfl) (pa_cons (pv 0) pa_nil)))
      (pss_one (ps_ret (pe_callTy call_tuple_of (by rfl) N.tuple (by decide +kernel) (pa_cons (C8.pe_c M hr (Nat.le_refl _) (by rfl) (pa_cons (pe_coins Co hr (by decide) (pv 0)) pa_nil)) pa_nil)))), ?_⟩
    refine ⟨_, rfl, p, dx, _, rfl, hp, ?_⟩
    refine ⟨_, rfl, p, dx, _, rfl, hp, p, dx, _, _, rfl, hp, rfl, ?_⟩
    refine ⟨a, C, G, rfl, ha, hL, fun H1 r s1 nr hr1 => ?_⟩
    refine ⟨r, _, rfl, .inl ⟨SqL.of hr1, fun l nl => ?_⟩⟩
    exact q _ l (s1.trans (same_new nl)) (s1.free nl) upd_same
/-! ### worst_rests -/
def spWorst (K : PySem.W.Frag) (Cl : Addr) : Sp := fun vs H Q _ => ∃ (p : Addr) (C : List Nat) (G : Nat), vs = [.ref p] ∧ LotAt K Cl H p C G ∧ Lots C G ∧
  ∀ H' r r2 m, m ∈ vals (table G C) → (∀ y ∈ vals (table G C), y ≤ m) → Same H H' → H r = none → H' r2 = some (.tup (cv (restsN (table G C) m G))) → H' r = some (.tup [.int m, .ref r2]) → Q (.ref r) H'
theorem scWorst : FnScope ["lot", "found", "worst", "cost", "rest"] ["lot"] (defScope sWorst) := ⟨rfl, rfl, rfl, by decide +kernel, rfl, by decide +kernel, by decide +kernel⟩
theorem ok_worst {f Cl : Addr} {fd : FuncData} (F : L2.Fun K "worst_rests" "worst_rests" sWorst f fd) (N : Nm mg) (Ch : C8.Cal P w K mg base 1 "check_lot" (spCheck Cl) []) (M : C8.Cal P w K mg base 4 "least_moves" (spMoves K) []) (Co : CoinsP P w K mg base Cl) :
    FnOk P w K mg base CX0 5 f fd ["lot"] (spWorst K Cl) := by
  refine F.ok scWorst (fun vs H Q E h => ?_) (fun cdv A outer s0 H vs Q E hr h => ?_)
  · obtain ⟨p, C, G, rfl, _⟩ := h
    rfl
  · obtain ⟨p, C, G, rfl, ⟨dx, a, hp, ha⟩, hL, q⟩ := h
    refine ⟨_, pss_cons (ps_expr (C8.pe_c Ch hr (by decide) (by rfl) (pa_cons (pv 0) pa_nil)))
      (pss_cons (ps_set (i := 1) scWorst.nd rfl (.inl rfl) (C8.pe_c M hr (Nat.le_refl _) (by rfl) (pa_cons (pe_coins Co hr (by decide) (pv 0)) pa_nil)))
      (pss_cons (ps_set (i := 2) scWorst.nd rfl (.inr rfl) (pe_callB (cr_max rfl) (by rfl) N.max (by decide +kernel) (pa_cons
        (pe_lc (own := [("cost", 3)]) (g := gName 3) rfl scWorst.nd (pi_list (pv 1)) (blkOk_by (own := [("cost", 3)]) (N := ["lot", "found", "worst", "cost", "rest"]) (sc := defScope sWorst) (by decide +kernel))
          (fun _ _ _ _ _ => pg_name (i := 3) scWorst.nd rfl (.inl rfl)) (fun _ _ _ _ _ => pts_one (pt_cmpR op_notN (pv 3) pe_non (nomark _))) (fun _ _ _ _ _ => pv 3)) pa_nil)))
      (pss_one (ps_ret (pe_tup (pa_cons (pv 2) (pa_cons (pe_callTy call_tuple_of (by rfl) N.tuple (by decide +kernel) (pa_cons
        (pe_lc (own := [("rest", 4), ("cost", 3)]) (g := gTup K 2 (gCons (gName 4) (gCons (gName 3) gNil))) rfl scWorst.nd (pi_enum (by rfl) N.enumerate (pa_cons (pv 1) pa_nil)) (blkOk_by (own := [("rest", 4), ("cost", 3)]) (N := ["lot", "found", "worst", "cost", "rest"]) (sc := defScope sWorst) (by decide +kernel))
          (fun _ _ _ _ _ => pg_tup rfl (pgs_cons (pg_name (i := 4) scWorst.nd rfl (.inl rfl)) (pgs_cons (pg_name (i := 3) scWorst.nd rfl (.inl rfl)) pgs_nil))) (fun _ _ _ _ _ => pts_one (pt_cmpR op_eq (pv 3) (pv 2) (nomark _))) (fun _ _ _ _ _ => pv 4)) pa_nil)) pa_nil))))))), ?_⟩
    refine ⟨_, rfl, p, dx, _, rfl, hp, ?_⟩
    refine ⟨_, rfl, p, dx, _, rfl, hp, p, dx, _, _, rfl, hp, rfl, ?_⟩
    refine ⟨a, C, G, rfl, ha, hL, fun H1 r s1 nr hr1 => ?_⟩
    generalize hT : table G C = T at *
    have hTl : T.length = G := by rw [← hT]; exact table_len hL.sm.pos C
    have hTop := hL.top
    -- worst
    refine ⟨_, rfl, r, rfl, ⟨_, SqL.of hr1⟩, fun D1 nD => ?_⟩
    refine lc_list (K := K) (a := r) (xs := T.map ov) (fun i H' => Same H1 H' ∧ H' D1 = some (.lst ((vals (T.take i)).map V.int)))
      ⟨same_new nD, upd_same⟩ (fun i H' _ hP => hP.1.seq (SqL.of hr1)) ?_ ?_
    · rintro i x H' hx ⟨sm, hD⟩
      rw [List.getElem?_map] at hx
      cases hi : T[i]? with
      | none =>
        rw [hi] at hx
        cases hx
      | some o =>
        rw [hi] at hx
        cases hx
        refine ⟨rfl, _, rfl, rfl, _, rfl, ?_⟩
        rw [ov_none]
        have hlen : (vals (T.take i)).length ≤ 24 := Nat.le_trans (vals_len _) (by rw [List.length_take]; omega)
        cases o with
        | none =>
          refine iteF ⟨sm, ?_⟩
          rw [vals_take hi, hD]
          simp
        | some n =>
          refine iteT ⟨_, rfl, _, hD, by rw [List.length_map]; exact small (by omega), ?_, ?_⟩
          · intro b o e
            rw [upd_ne (ne_of_none e nD)]
            exact sm _ _ e
          · rw [upd_same, vals_take hi, List.map_append]
            rfl
    · rintro H2 ⟨s2, hD⟩
      have e0 : T.take (T.map ov).length = T := by rw [List.length_map, List.take_length]
      rw [e0] at hD
      have hz : (0 : Int) ∈ vals T ∨ 0 < (vals T).length := by
        right
        obtain ⟨x, hx, _⟩ := table_zero hL.sm
        rw [hT] at hx
        have h0 : 0 < T.length := lt_of_some hx
        have hm : some x ∈ T := by
          rw [List.getD_eq_getElem?_getD, List.getElem?_eq_getElem h0] at hx
          have hx' : T[0] = some x := hx
          rw [← hx']
          exact List.getElem_mem h0
        exact List.length_pos_of_mem (List.mem_filterMap.mpr ⟨some x, hm, rfl⟩)
      have hpos : 0 < (vals T).length := hz.elim (fun z => List.length_pos_of_mem z) id
      refine ⟨D1, vals T, rfl, SqL.of hD, hpos, fun m hm hle => ?_⟩
      -- the rests
      refine ⟨_, rfl, _, rfl, r, T.map ov, rfl, SqL.of (s2 _ _ hr1), fun D2 nD2 => ?_⟩
      refine ⟨fun i k H' => i + k = T.length ∧ Same H2 H' ∧ H' D2 = some (.lst (cv (restsN T m i))), ⟨T.length, by omega, same_new nD2, upd_same⟩, ?_⟩
      rintro i k H' ⟨ek, sm, hD2⟩
      have hF : SqL K H' r (T.map ov) := SqL.of (sm _ _ (s2 _ _ hr1))
      by_cases hi : i < T.length
      · have hx : (T.map ov)[i]? = some (ov (T.getD i none)) := ov_get hi
        refine .inr ⟨⟨_, _, hF, hx⟩, fun H'' => Same H2 H'' ∧ H'' D2 = some (.lst (cv (restsN T m (i + 1)))), fun H'' h => ⟨k - 1, by omega, by omega, h.1, h.2⟩, ?_⟩
        rintro v H'' ⟨Tp, x1, rfl, nT, rfl, fx⟩
        have ex : x1 = ov (T.getD i none) := Option.some.inj ((fx _ hF).symm.trans hx)
        subst ex
        have nDT : D2 ≠ Tp := ne_of_none hD2 nT
        have smT : Same H2 (upd H' Tp (.tup [.int (i : Nat), ov (T.getD i none)])) := sm.trans (same_new nT)
        have hD3 : (upd H' Tp (.tup [.int (i : Nat), ov (T.getD i none)])) D2 = some (.lst (cv (restsN T m i))) := by
          rw [upd_ne nDT]
          exact hD2
        refine ⟨Tp, _, rfl, SqT.of upd_same, rfl, _, _, rfl, _, [], rfl, rfl, rfl, ?_⟩
        refine ⟨_, rfl, _, rfl, scal_ov _ _, _, rfl, ?_⟩
        rw [ov_eq]
        refine ite2 (fun e => ?_) (fun e => ?_)
        · have e' : T.getD i none = some m := of_decide_eq_true e
          have hlen := restsN_len T m i
          refine ⟨_, rfl, _, hD3, by rw [cv_len]; exact small (by omega), ?_, ?_⟩
          · intro b o e2
            rw [upd_ne (ne_of_none e2 nD2)]
            exact smT _ _ e2
          · rw [upd_same, restsN_succ, if_pos e']
            unfold cv
            rw [List.map_append]
            rfl
        · have e' : ¬ T.getD i none = some m := fun z => e (decide_eq_true z)
          refine ⟨smT, ?_⟩
          rw [restsN_succ, if_neg e', List.append_nil]
          exact hD3
      · have ei : i = T.length := by omega
        subst ei
        refine .inl ⟨⟨_, hF, by rw [List.length_map]; exact Nat.le_refl _⟩, ?_⟩
        refine ⟨D2, _, rfl, .inl ⟨SqL.of hD2, fun r2 nr2 => ?_⟩⟩
        refine ⟨by show 2 ≤ sizeLine; decide, fun r3 nr3 => ?_⟩
        have s12 : Same H H' := s1.trans (s2.trans sm)
        have s4 : Same H' (upd H' r2 (.tup (cv (restsN T m T.length)))) := same_new nr2
        have n23 : r2 ≠ r3 := ne_of_none upd_same nr3
        have sAll : Same H (upd (upd H' r2 (.tup (cv (restsN T m T.length)))) r3 (.tup [.int m, .ref r2])) := s12.trans (s4.trans (same_new nr3))
        refine q _ r3 r2 m hm hle sAll ((s12.trans s4).free nr3) ?_ upd_same
        rw [upd_ne n23, upd_same, hTl]
end
end Mk

namespace Mk
open PySem PySem.Spec PyProof.Rows L2 Mint
theorem m0 : (2147483587 : Int) ≠ 0 := by decide
theorem fm {x j : Int} (h : 0 < j) : 0 ≤ x.fmod j ∧ x.fmod j < j := by
  rw [Int.fmod_eq_emod_of_nonneg _ (Int.le_of_lt h)]
  exact ⟨Int.emod_nonneg _ (by omega), Int.emod_lt_of_pos _ h⟩
theorem mem_cut {xs : List V} {lo hi : Option Int} {x : V} (h : x ∈ cutV xs lo hi) : x ∈ xs := by
  unfold cutV at h
  exact List.mem_of_mem_drop (List.mem_of_mem_take h)
/-- all but b stand as they did -/
def Keep (b : Addr) (H H' : Hp) : Prop := ∀ c o, c ≠ b → H c = some o → H' c = some o
theorem Keep.refl {b : Addr} {H : Hp} : Keep b H H := fun _ _ _ h => h
theorem Keep.trans {b : Addr} {H H1 H2 : Hp} (h : Keep b H H1) (h' : Keep b H1 H2) : Keep b H H2 := fun c o hc e => h' c o hc (h c o hc e)
theorem Keep.of {b : Addr} {H H' : Hp} (h : Same H H') : Keep b H H' := fun c o _ e => h c o e
theorem Keep.upd {b : Addr} {H : Hp} {o : HO} : Keep b H (upd H b o) := fun c x hc e => by
  rw [upd_ne hc]
  exact e
theorem Keep.seq {b : Addr} {K : PySem.W.Frag} {H H' : Hp} {a : Addr} {xs : List V} (h : Keep b H H') (hb : H b = some o) (ho : ∀ ys, o = .lst ys → ys ≠ xs) (hs : SqL K H a xs) : SqL K H' a xs ∨ a = b := by
  by_cases e : a = b
  · exact .inr e
  · left
    rcases hs with (z | ⟨u, z⟩) | z
    · exact .inl (.inl (h _ _ e z))
    · exact .inl (.inr ⟨u, h _ _ e z⟩)
    · exact .inr z
/-- where draws come from -/
def BagAt (H : Hp) (b : Addr) : Prop := ∃ o m k : Int, H b = some (.lst [.int o, .int m, .int k]) ∧ 0 ≤ o ∧ 0 ≤ m ∧ m < 2147483587 ∧ 0 ≤ k
section
variable {P : Program} {w : World} {K : PySem.W.Frag} {mg : Str → Option Value} {base : Heap}
/-! ### _law_bag -/
def spBag (K : PySem.W.Frag) : Sp := fun vs H Q _ => ∃ (a : Addr) (ns : List Int) (t : Nat), vs = [.ref a, .int (t : Nat)] ∧ SqL K H a (ns.map V.int) ∧ t ≤ 10 ∧
  ∀ H' r, Same H H' → H r = none → BagAt H' r → Q (.ref r) H'
theorem scBag : FnScope ["_law_script", "_law_turn", "_law_cell", "_law_mixed", "_law_each", "_law_own"] ["_law_script", "_law_turn"] (defScope sBag) := ⟨rfl, rfl, rfl, by decide +kernel, rfl, by decide +kernel, by decide +kernel⟩
theorem ok_bag {f : Addr} {fd : FuncData} (F : L2.Fun K "_law_bag" "_law_bag" sBag f fd) (N : Nm mg) : FnOk P w K mg base CX0 1 f fd ["_law_script", "_law_turn"] (spBag K) := by
  refine F.ok scBag (fun vs H Q E h => ?_) (fun cdv A outer s0 H vs Q E hr h => ?_)
  · obtain ⟨a, ns, t, rfl, _⟩ := h
    rfl
  · obtain ⟨a, ns, t, rfl, hS, ht, q⟩ := h
    refine ⟨_, C8.pss_cut (ps_set (i := 2) scBag.nd rfl (.inl rfl) (pe_ifExp (pt_cmpR op_lt (pv 1) (pe_callB call_len_seq (by rfl) N.len PySem.boot_len (pa_cons (pv 0) pa_nil)) (nomark _))
          (pe_callTy call_int1 (by rfl) N.int (by decide +kernel) (pa_cons (pe_ix ix_list (pv 0) (pv 1) (fun _ _ => rfl)) pa_nil)) (pe_op op_add (pe_op op_mul pe_int (pv 1)) pe_int)))
      (pss_cons (ps_set (i := 3) scBag.nd rfl (.inl rfl) (pe_op op_add pe_int (pe_op op_mul pe_int (pv 1))))
      (pss_cons (ps_for PassesOwn.never rfl (pi_list (pe_slice sl_list (pv 0) po_none (po_some pe_int))) (pg_name (i := 4) scBag.nd rfl (.inl rfl))
        (pss_one (ps_set (i := 3) scBag.nd rfl (.inl rfl) (pe_op op_modN (pe_callTy call_int1 (by rfl) N.int (by decide +kernel) (pa_cons
          (pe_op op_add (pe_op op_add (pe_op op_mul (pv 3) pe_int) (pe_op op_modN (pe_callTy call_int1 (by rfl) N.int (by decide +kernel) (pa_cons (pv 4) pa_nil)) pe_int)) pe_int) pa_nil)) pe_int))))
      (C8.pss_cut (ps_set (i := 5) scBag.nd rfl (.inl rfl) (pe_ifExp (PW.pt (pw_or (pt_cmpR op_lt (pv 2) pe_int (nomark _)) (pw_or1 (pt_cmpR op_ge (pv 2) (pe_op op_pow pe_int pe_int) (nomark _)))))
          (pe_callB call_abs (by rfl) N.abs (by decide +kernel) (pa_cons (pv 2) pa_nil)) pe_int))
      (pss_one (ps_ret (pe_lst (pa_cons (pv 5) (pa_cons (pe_op op_modN (pe_callTy call_int1 (by rfl) N.int (by decide +kernel) (pa_cons
          (pe_op op_add (pe_op op_mul (pv 3) pe_int) (pe_op op_mul (pe_op op_modN (pe_callTy call_int1 (by rfl) N.int (by decide +kernel) (pa_cons (pv 2) pa_nil)) pe_int) pe_int)) pa_nil)) pe_int) (pa_cons pe_int pa_nil))))))))), ?_⟩
    -- the cell
    refine ⟨fun σ' H' => ∃ z : Int, σ' = [some (.ref a), some (.int (t : Nat)), some (.int z), none, none, none] ∧ H' = H, ?_, ?_⟩
    · refine ⟨_, rfl, _, rfl, a, _, rfl, .inl hS, _, _, rfl, rfl, _, rfl, ?_⟩
      refine ite2 (fun e => ?_) (fun e => ?_)
      · have hlt : (t : Int) < ((ns.map V.int).length : Int) := of_decide_eq_true e
        rw [List.length_map] at hlt
        have hi : t < ns.length := by omega
        have gx : (ns.map V.int)[t]? = some (.int ns[t]) := by
          rw [List.getElem?_map, List.getElem?_eq_getElem hi]
          rfl
        exact ⟨_, rfl, _, rfl, a, _, _, _, rfl, rfl, hS, atI_nat gx, .inl ⟨_, rfl, _, rfl, rfl⟩⟩
      · exact ⟨_, rfl, _, _, rfl, rfl, .inl ⟨by decide, by decide⟩, _, _, rfl, rfl, _, rfl, rfl⟩
    · rintro σ' H' ⟨z, rfl, rfl⟩
      refine ⟨_, rfl, _, _, rfl, rfl, .inl ⟨by decide, by decide⟩, _, _, rfl, rfl, ?_⟩
      refine ⟨_, rfl, 6, rfl, a, _, rfl, hS, fun c nc => ?_⟩
      have s1 : Same H' (upd H' c (.lst (cutV (ns.map V.int) none (some 6)))) := same_new nc
      refine ⟨c, rfl, ⟨_, SqL.of upd_same⟩, ?_⟩
      refine for_list (K := K) (a := c) (xs := cutV (ns.map V.int) none (some 6)) (fun i σ H2 => ∃ (m : Int) (y4 : Option V), σ = [some (.ref a), some (.int (t : Nat)), some (.int z), some (.int m), y4, none] ∧ 0 ≤ m ∧ m < 2147483587 ∧ H2 = upd H' c (.lst (cutV (ns.map V.int) none (some 6))))
        ⟨_, none, rfl, ?_, ?_, rfl⟩ (fun i σ H2 _ hP => ?_) ?_ ?_
      · show (0 : Int) ≤ 60013 + 7013 * (t : Nat)
        omega
      · show (60013 : Int) + 7013 * (t : Nat) < 2147483587
        omega
      · obtain ⟨_, _, _, _, _, rfl⟩ := hP
        exact SqL.of upd_same
      · rintro i x σ H2 hx ⟨m, y4, rfl, hm0, hm1, rfl⟩
        obtain ⟨v, hv, rfl⟩ := List.mem_map.1 (mem_cut (List.mem_of_getElem? hx))
        refine ⟨_, rfl, _, _, rfl, rfl, .inl ⟨by omega, by omega⟩, _, rfl, .inl ⟨_, rfl, _, _, rfl, rfl, m0, _, _, rfl, rfl, _, _, rfl, rfl, .inl ⟨_, rfl, _, _, rfl, rfl, m0, ?_⟩⟩⟩
        exact ⟨_, _, rfl, (fm (by decide)).1, (fm (by decide)).2, rfl⟩
      · rintro σ H2 ⟨m, y4, rfl, hm0, hm1, rfl⟩
        -- own
        refine ⟨fun σ' H2 => ∃ o : Int, σ' = [some (.ref a), some (.int (t : Nat)), some (.int z), some (.int m), y4, some (.int o)] ∧ 0 ≤ o ∧ H2 = upd H' c (.lst (cutV (ns.map V.int) none (some 6))), ?_, ?_⟩
        · skip
          have habs : 0 ≤ (if z < 0 then -z else z) := by
            split <;> omega
          refine ⟨_, rfl, _, _, rfl, rfl, _, rfl, ?_⟩
          refine ite2 (fun e => ?_) (fun e => ?_)
          · exact iteT ⟨_, rfl, z, rfl, _, rfl, habs, rfl⟩
          · refine ⟨_, rfl, _, _, rfl, rfl, ⟨by decide, by decide, by decide⟩, _, _, rfl, rfl, _, rfl, ?_⟩
            refine ite2 (fun e => ?_) (fun e => ?_)
            · exact ⟨_, rfl, z, rfl, _, rfl, habs, rfl⟩
            · exact ⟨0, rfl, Int.le_refl 0, rfl⟩
        · rintro σ' H2 ⟨o, rfl, ho, rfl⟩
          refine ⟨_, rfl, _, rfl, _, _, rfl, rfl, .inl ⟨by omega, by omega⟩, _, rfl, .inl ⟨_, rfl, _, _, rfl, rfl, m0, _, _, rfl, rfl, .inr ⟨by decide, by decide⟩, _, _, rfl, rfl, .inl ⟨_, rfl, _, _, rfl, rfl, m0, ?_⟩⟩⟩
          refine ⟨by show 3 ≤ sizeLine; decide, fun r nr => ?_⟩
          exact q _ r (s1.trans (same_new nr)) (s1.free nr) ⟨o, _, 0, upd_same, ho, (fm (by decide)).1, (fm (by decide)).2, Int.le_refl 0⟩
end
end Mk

namespace Mk
open PySem PySem.Spec PyProof.Rows L2 Mint
section
variable {P : Program} {w : World} {K : PySem.W.Frag} {mg : Str → Option Value} {base : Heap}
/-! ### _law_grab -/
def spGrab : Sp := fun vs H Q _ => ∃ (b : Addr) (n : Nat), vs = [.ref b, .int (n : Nat)] ∧ BagAt H b ∧ 1 ≤ n ∧ n ≤ 1000 ∧ ∀ (H' : Hp) (v : Nat), v < n → BagAt H' b → Keep b H H' → Q (.int (v : Nat)) H'
theorem scGrab : FnScope ["_law_bag_here", "_law_size", "_law_figure", "_law_seed"] ["_law_bag_here", "_law_size"] (defScope sGrab) := ⟨rfl, rfl, rfl, by decide +kernel, rfl, by decide +kernel, by decide +kernel⟩
theorem ok_grab {f : Addr} {fd : FuncData} (F : L2.Fun K "_law_grab" "_law_grab" sGrab f fd) (N : Nm mg) : FnOk P w K mg base CX0 1 f fd ["_law_bag_here", "_law_size"] spGrab := by
  refine F.ok scGrab (fun vs H Q E h => ?_) (fun cdv A outer s0 H vs Q E hr h => ?_)
  · obtain ⟨b, n, rfl, _⟩ := h
    rfl
  · obtain ⟨b, n, rfl, ⟨o, m, k, hb, ho, hm, hm2, hk⟩, h1, h2, q⟩ := h
    refine ⟨_, pss_cons (ps_if (pt_cmpR op_gt (pe_ix ix_list (pv 0) pe_int (fun _ _ => rfl)) pe_int (nomark _))
        (pss_cons (ps_asg (pe_callB call_divmod (by rfl) N.divmod (by decide +kernel) (pa_cons (pe_ix ix_list (pv 0) pe_int (fun _ _ => rfl)) (pa_cons (pv 1) pa_nil)))
            (pg_tup rfl (pgs_cons (pg_sub (pv 0) pe_int set_list) (pgs_cons (pg_name (i := 2) scGrab.nd rfl (.inl rfl)) pgs_nil))))
          (pss_one (ps_ret (pv 2)))) pss_nil)
      (pss_cons (ps_asg (pe_op op_add (pe_ix ix_list (pv 0) pe_int (fun _ _ => rfl)) pe_int) (pg_sub (pv 0) pe_int set_list))
      (pss_cons (ps_set (i := 3) scGrab.nd rfl (.inl rfl) (pe_op op_modN (pe_callTy call_int1 (by rfl) N.int (by decide +kernel) (pa_cons (pe_op op_add (pe_ix ix_list (pv 0) pe_int (fun _ _ => rfl)) (pe_op op_mul pe_int (pe_ix ix_list (pv 0) pe_int (fun _ _ => rfl)))) pa_nil)) pe_int))
      (pss_cons (ps_asg (pe_op op_modN (pe_callTy call_int1 (by rfl) N.int (by decide +kernel) (pa_cons (pe_op op_add (pe_op op_mul (pv 3) (pe_op op_add (pe_op op_modN (pe_callTy call_int1 (by rfl) N.int (by decide +kernel) (pa_cons (pv 3) pa_nil)) pe_int) pe_int))
          (pe_op op_mul pe_int (pe_ix ix_list (pv 0) pe_int (fun _ _ => rfl)))) pa_nil)) pe_int) (pg_sub (pv 0) pe_int set_list))
      (pss_one (ps_ret (pe_op op_modN (pe_callTy call_int1 (by rfl) N.int (by decide +kernel) (pa_cons (pe_op op_fdivN (pe_ix ix_list (pv 0) pe_int (fun _ _ => rfl)) pe_int) pa_nil)) (pv 1))))))), ?_⟩
    have hn : (0 : Int) < (n : Int) := by omega
    refine ⟨_, rfl, b, _, 0, _, rfl, rfl, SqL.of hb, rfl, _, _, rfl, rfl, _, rfl, ?_⟩
    refine ite2 (fun e => ?_) (fun e => ?_)
    · refine ⟨_, rfl, b, _, 0, _, rfl, rfl, SqL.of hb, rfl, _, rfl, o, n, rfl, ⟨hn, by omega⟩, fun p np => ?_⟩
      have nbp : b ≠ p := ne_of_none hb np
      have k1 : Same H (upd H p (.tup [.int (o / (n : Int)), .int (o % (n : Int))])) := same_new np
      refine ⟨p, _, rfl, SqT.of upd_same, rfl, _, _, rfl, _, rfl, b, _, 0, 0, rfl, rfl, k1 _ _ hb, rfl, _, [], rfl, rfl, ?_⟩
      refine ⟨_, rfl, ?_⟩
      have ev : o % (n : Int) = (((o % (n : Int)).toNat : Nat) : Int) := (Int.toNat_of_nonneg (Int.emod_nonneg _ (by omega))).symm
      have hlt := Int.emod_lt_of_pos o hn
      have hg : ∀ H3, Q (.int (((o % (n : Int)).toNat : Nat) : Int)) H3 → Q (.int (o % (n : Int))) H3 := fun H3 h => by
        rw [ev]
        exact h
      exact hg _ (q _ _ (by omega) ⟨o / (n : Int), m, k, upd_same, Int.ediv_nonneg ho (by omega), hm, hm2, hk⟩ ((Keep.of k1).trans Keep.upd))
    · refine ⟨_, rfl, b, _, 2, _, rfl, rfl, SqL.of hb, rfl, _, _, rfl, rfl, _, rfl, b, _, 2, 2, rfl, rfl, hb, rfl, ?_⟩
      have g1 : upd H b (.lst [.int o, .int m, .int (k + 1)]) b = some (.lst [.int o, .int m, .int (k + 1)]) := upd_same
      refine ⟨_, rfl, b, _, 1, _, rfl, rfl, SqL.of g1, rfl, _, rfl, b, _, 2, _, rfl, rfl, SqL.of g1, rfl, _, _, rfl, rfl, .inl ⟨by decide, by decide⟩, _, _, rfl, rfl, .inl ⟨_, rfl, _, _, rfl, rfl, m0, ?_⟩⟩
      have f1 := fm (x := m + 20011 * (k + 1)) (j := 2147483587) (by decide)
      refine ⟨_, rfl, _, rfl, .inl ⟨_, rfl, _, _, rfl, rfl, by show (9001 : Int) ≠ 0; decide, _, _, rfl, rfl, _, _, rfl, rfl, .inl ⟨by omega, by omega⟩, ?_⟩⟩
      refine ⟨_, rfl, b, _, 2, _, rfl, rfl, SqL.of g1, rfl, _, _, rfl, rfl, .inl ⟨by decide, by decide⟩, _, _, rfl, rfl, .inl ⟨_, rfl, _, _, rfl, rfl, m0, ?_⟩⟩
      have f2 := fm (x := Int.fmod (m + 20011 * (k + 1)) 2147483587 * (Int.fmod (Int.fmod (m + 20011 * (k + 1)) 2147483587) 9001 + 40013) + 19 * (k + 1)) (j := 2147483587) (by decide)
      refine ⟨_, rfl, b, _, 1, 1, rfl, rfl, g1, rfl, ?_⟩
      refine ⟨_, rfl, b, _, 1, _, rfl, rfl, SqL.of upd_same, rfl, _, _, rfl, rfl, ⟨by decide, by decide⟩, .inl ⟨_, rfl, _, rfl, _, _, rfl, rfl, by omega, ?_⟩⟩
      have f3 := fm (x := Int.fdiv (Int.fmod (Int.fmod (m + 20011 * (k + 1)) 2147483587 * (Int.fmod (Int.fmod (m + 20011 * (k + 1)) 2147483587) 9001 + 40013) + 19 * (k + 1)) 2147483587) 263) (j := (n : Int)) hn
      generalize hz : Int.fmod (Int.fdiv (Int.fmod (Int.fmod (m + 20011 * (k + 1)) 2147483587 * (Int.fmod (Int.fmod (m + 20011 * (k + 1)) 2147483587) 9001 + 40013) + 19 * (k + 1)) 2147483587) 263) (n : Int) = z at f3
      have ev : z = ((z.toNat : Nat) : Int) := (Int.toNat_of_nonneg f3.1).symm
      have hg : ∀ H3, Q (.int ((z.toNat : Nat) : Int)) H3 → Q (.int (Int.fmod (Int.fdiv (Int.fmod (Int.fmod (m + 20011 * (k + 1)) 2147483587 * (Int.fmod (Int.fmod (m + 20011 * (k + 1)) 2147483587) 9001 + 40013) + 19 * (k + 1)) 2147483587) 263) (n : Int))) H3 := fun H3 h => by
        rw [hz, ev]
        exact h
      exact hg _ (q _ _ (by omega) ⟨o, _, k + 1, upd_same, ho, f2.1, f2.2, by omega⟩ (Keep.upd.trans Keep.upd))
/-! ### _law_some -/
def spSome : Sp := fun vs H Q _ => ∃ (b l : Addr) (ns : List Int), vs = [.ref b, .ref l] ∧ BagAt H b ∧ H l = some (.lst (ns.map V.int)) ∧ l ≠ b ∧ 0 < ns.length ∧ ns.length ≤ 1000 ∧
  ∀ (H' : Hp) (v : Int), v ∈ ns → BagAt H' b → Keep b H H' → Q (.int v) H'
theorem scSome : FnScope ["_law_bag_here", "_law_menu"] ["_law_bag_here", "_law_menu"] (defScope sSome) := ⟨rfl, rfl, rfl, by decide +kernel, rfl, by decide +kernel, by decide +kernel⟩
theorem ok_some {f : Addr} {fd : FuncData} (F : L2.Fun K "_law_some" "_law_some" sSome f fd) (N : Nm mg) (G : C8.Cal P w K mg base 1 "_law_grab" spGrab []) : FnOk P w K mg base CX0 2 f fd ["_law_bag_here", "_law_menu"] spSome := by
  refine F.ok scSome (fun vs H Q E h => ?_) (fun cdv A outer s0 H vs Q E hr h => ?_)
  · obtain ⟨b, l, ns, rfl, _⟩ := h
    rfl
  · obtain ⟨b, l, ns, rfl, hb, hl, hlb, h1, h2, q⟩ := h
    refine ⟨_, pss_one (ps_ret (pe_ix ix_list (pv 1) (C8.pe_c G hr (Nat.le_refl _) (by rfl) (pa_cons (pv 0) (pa_cons (pe_callB call_len_seq (by rfl) N.len PySem.boot_len (pa_cons (pv 1) pa_nil)) pa_nil))) (fun _ _ => rfl))), ?_⟩
    refine ⟨_, rfl, _, rfl, _, rfl, l, _, rfl, .inl (SqL.of hl), b, ns.length, by rw [List.length_map] <;> rfl, hb, h1, h2, fun H1 v hv hb1 k1 => ?_⟩
    have gx : (ns.map V.int)[v]? = some (.int ns[v]) := by
      rw [List.getElem?_map, List.getElem?_eq_getElem hv]
      rfl
    exact ⟨l, _, _, _, rfl, rfl, SqL.of (k1 _ _ hlb hl), atI_nat gx, q _ _ (List.getElem_mem hv) hb1 k1⟩
/-! ### _law_coins -/
def spLCoins : Sp := fun vs H Q _ => ∃ (b : Addr) (many top : Nat), vs = [.ref b, .int (many : Nat), .int (top : Nat)] ∧ BagAt H b ∧ 1 ≤ many ∧ many ≤ 5 ∧ 3 ≤ top ∧ top ≤ 24 ∧
  ∀ (H' : Hp) (r : Addr) (L : List Nat), Coins L → BagAt H' b → Keep b H H' → H r = none → H' r = some (.tup (cv L)) → Q (.ref r) H'
theorem scLCoins : FnScope ["_law_bag_here", "_law_many", "_law_top", "_law_by", "_law_k"] ["_law_bag_here", "_law_many", "_law_top"] (defScope sLCoins) := ⟨rfl, rfl, rfl, by decide +kernel, rfl, by decide +kernel, by decide +kernel⟩
theorem keep_new {b : Addr} {H : Hp} {p : Addr} {o : HO} (h : H p = none) : Keep b H (upd H p o) := Keep.of (same_new h)
theorem BagAt.new {b : Addr} {H : Hp} {p : Addr} {o : HO} (h : BagAt H b) (n : H p = none) : BagAt (upd H p o) b := by
  obtain ⟨x, y, z, e, r⟩ := h
  exact ⟨x, y, z, by rw [upd_ne (ne_of_none e n)]; exact e, r⟩
theorem BagAt.ne {b : Addr} {H : Hp} {p : Addr} (h : BagAt H b) (n : H p = none) : p ≠ b := by
  obtain ⟨x, y, z, e, r⟩ := h
  exact (ne_of_none e n).symm
theorem Keep.free {b : Addr} {H H' : Hp} (k : Keep b H H') {p : Addr} (hp : p ≠ b) (h : H' p = none) : H p = none := by
  cases q : H p with
  | none => rfl
  | some o =>
    rw [k p o hp q] at h
    cases h
theorem coins_of {ns : List Int} (h1 : ns.Pairwise (· < ·)) (h2 : ∀ y ∈ ns, 1 ≤ y ∧ y ≤ 24) (h3 : ns.length ≤ 5) (h4 : ns ≠ []) : Coins (ns.map Int.toNat) ∧ cv (ns.map Int.toNat) = ns.map V.int := by
  refine ⟨⟨by rw [List.length_map]; exact h3, fun c hc => ?_, ?_, ?_⟩, ?_⟩
  · obtain ⟨y, hy, rfl⟩ := List.mem_map.1 hc
    have := h2 y hy
    omega
  · rw [List.pairwise_map]
    refine List.Pairwise.imp_of_mem (fun {x y} hx hy hxy => ?_) h1
    have := h2 x hx
    have := h2 y hy
    omega
  · intro e
    exact h4 (List.map_eq_nil_iff.mp e)
  · unfold cv
    rw [List.map_map]
    refine List.map_congr_left fun y hy => ?_
    have := h2 y hy
    show V.int ((y.toNat : Nat) : Int) = V.int y
    rw [Int.toNat_of_nonneg (by omega)]
theorem ok_lcoins {f : Addr} {fd : FuncData} (F : L2.Fun K "_law_coins" "_law_coins" sLCoins f fd) (N : Nm mg) (G : C8.Cal P w K mg base 1 "_law_grab" spGrab []) (S : C8.Cal P w K mg base 2 "_law_some" spSome []) :
    FnOk P w K mg base CX0 3 f fd ["_law_bag_here", "_law_many", "_law_top"] spLCoins := by
  refine F.ok scLCoins (fun vs H Q E h => ?_) (fun cdv A outer s0 H vs Q E hr h => ?_)
  · obtain ⟨b, many, top, rfl, _⟩ := h
    rfl
  · obtain ⟨b, many, top, rfl, hb, hm1, hm2, ht1, ht2, q⟩ := h
    refine ⟨_, pss_cons (ps_set (i := 3) scLCoins.nd rfl (.inr rfl) (C8.pe_c S hr (Nat.le_refl _) (by rfl) (pa_cons (pv 0) (pa_cons (pe_lst (pa_cons pe_int (pa_cons pe_int (pa_cons pe_int (pa_cons pe_int (pa_cons pe_int (pa_cons pe_int pa_nil))))))) pa_nil))))
      (pss_one (ps_ret (pe_callTy call_tuple_of (by rfl) N.tuple (by decide +kernel) (pa_cons (pe_callB (cr_sortedSet rfl) (by rfl) N.sorted (by decide +kernel) (pa_cons (pe_callTy (MkS.cr_setL rfl) (by rfl) N.set (by decide +kernel) (pa_cons
        (pe_lc (own := [("_law_k", 4)]) (g := gName 4) (tt := tYes) rfl scLCoins.nd (pi_range1 (by rfl) N.range (pa_cons (pe_op op_add pe_int (C8.pe_c G hr (by decide) (by rfl) (pa_cons (pv 0) (pa_cons (pv 1) pa_nil)))) pa_nil))
          (blkOk_by (own := [("_law_k", 4)]) (N := ["_law_bag_here", "_law_many", "_law_top", "_law_by", "_law_k"]) (sc := defScope sLCoins) (by decide +kernel))
          (fun _ _ _ _ _ => pg_name (i := 4) scLCoins.nd rfl (.inl rfl)) (fun _ _ _ _ _ => pts_nil)
          (fun _ _ _ _ _ => pe_op op_mul (pv 3) (pe_op op_add pe_int (C8.pe_c G hr (by decide) (by rfl) (pa_cons (pv 0) (pa_cons (pe_op op_fdivN (pv 2) (pv 3)) pa_nil)))))) pa_nil)) pa_nil)) pa_nil)))), ?_⟩
    refine ⟨_, rfl, by show 6 ≤ sizeLine; decide, fun l nl => ?_⟩
    have k0 : Keep b H (upd H l (.lst ([1, 1, 1, 1, 2, 3].map V.int))) := keep_new nl
    refine ⟨b, l, [1, 1, 1, 1, 2, 3], rfl, hb.new nl, upd_same, hb.ne nl, by decide, by decide, fun H1 by_ hby hb1 k1 => ?_⟩
    have hby2 : by_ = 1 ∨ by_ = 2 ∨ by_ = 3 := by
      simp at hby
      omega
    have k01 := k0.trans k1
    refine ⟨_, rfl, _, rfl, b, many, rfl, hb1, hm1, by omega, fun H2 v hv hb2 k2 => ?_⟩
    have k02 := k01.trans k2
    refine ⟨_, _, rfl, rfl, 1 + (v : Nat), rfl, by omega, by omega, fun D nD => ?_⟩
    have en : (1 + (v : Nat) : Int).toNat = v + 1 := by omega
    rw [en]
    refine lc_range (lo := 0) (n := v + 1) (fun i H' => ∃ ns : List Int, ns.length = i ∧ (∀ y ∈ ns, 1 ≤ y ∧ y ≤ 24) ∧ H' D = some (.lst (ns.map V.int)) ∧ BagAt H' b ∧ Keep b H2 H')
      ⟨[], rfl, (fun _ hy => nomatch hy), upd_same, hb2.new nD, keep_new nD⟩ ?_ ?_
    · rintro i H' hi ⟨ns, hl, hr1, hD, hb', k'⟩
      have nDb : D ≠ b := hb2.ne nD
      refine ⟨rfl, _, rfl, _, rfl, _, rfl, _, rfl, _, _, rfl, rfl, ⟨by omega, by omega⟩, ?_⟩
      have ed : Int.fdiv (top : Int) by_ = ((top / by_.toNat : Nat) : Int) := by
        rw [Int.fdiv_eq_ediv_of_nonneg _ (by omega), Int.natCast_ediv, Int.toNat_of_nonneg (by omega)]
      have hq1 : 1 ≤ top / by_.toNat := by
        rcases hby2 with rfl | rfl | rfl <;> (show 1 ≤ top / _; simp; omega)
      have hq2 : top / by_.toNat ≤ 24 := Nat.le_trans (Nat.div_le_self _ _) ht2
      have hq3 : by_.toNat * (top / by_.toNat) ≤ top := Nat.mul_div_le _ _
      generalize top / by_.toNat = d at *
      refine ⟨b, d, ?_, hb', hq1, by omega, fun H3 u hu hb3 k3 => ?_⟩
      · show [V.ref b, V.int (Int.fdiv (top : Int) by_)] = _
        rw [ed]
      refine ⟨_, _, rfl, rfl, _, _, rfl, rfl, .inl ⟨by omega, by omega⟩, ?_⟩
      have hD3 := k3 _ _ nDb hD
      refine ⟨_, hD3, by rw [List.length_map]; exact small (by omega), ns ++ [by_ * (1 + (u : Nat))], ?_, ?_, ?_, hb3.elim fun o h => ?_, ?_⟩
      · rw [List.length_append, hl]
        rfl
      · intro y hy
        rcases List.mem_append.1 hy with hy | hy
        · exact hr1 y hy
        · rw [List.mem_singleton.mp hy]
          have hb0 : by_ = ((by_.toNat : Nat) : Int) := (Int.toNat_of_nonneg (by omega)).symm
          have hmul : by_.toNat * (1 + u) ≤ by_.toNat * d := Nat.mul_le_mul_left _ (by omega)
          have hmul2 : 1 * 1 ≤ by_.toNat * (1 + u) := Nat.mul_le_mul (by omega) (by omega)
          have e : by_ * (1 + (u : Nat)) = ((by_.toNat * (1 + u) : Nat) : Int) := by
            rw [Int.natCast_mul, ← hb0]
            rfl
          rw [e]
          omega
      · rw [upd_same, List.map_append]
        rfl
      · obtain ⟨m, k, e, r⟩ := h
        exact ⟨o, m, k, by rw [upd_ne nDb.symm]; exact e, r⟩
      · intro c o hc e
        rw [upd_ne (ne_of_none e nD)]
        exact k3 _ _ hc (k' _ _ hc e)
    · rintro H3 ⟨ns, hl, hr1, hD, hb3, k3⟩
      have k03 := k02.trans k3
      refine ⟨D, ns, rfl, SqL.of hD, by omega, fun p c hc np => ?_⟩
      have k4 : Keep b H3 (upd H3 p (SetO w p (fun j => decide (j ∈ ns)) c)) := keep_new np
      refine ⟨p, _, c, rfl, upd_same, by omega, fun ns' l2 hp1 hp2 hp3 nl2 => ?_⟩
      have k5 := k4.trans (keep_new (b := b) (o := .lst (ns'.map V.int)) nl2)
      refine ⟨l2, _, rfl, .inl ⟨SqL.of upd_same, fun r nr => ?_⟩⟩
      have hmem : ∀ y, y ∈ ns' ↔ y ∈ ns := fun y => by
        rw [hp2 y]
        exact decide_eq_true_iff
      have hne : ns' ≠ [] := fun e => by
        cases ns with
        | nil =>
          rw [List.length_nil] at hl
          omega
        | cons y r =>
          have := (hmem y).mpr List.mem_cons_self
          rw [e] at this
          cases this
      obtain ⟨hC, hcv⟩ := coins_of hp1 (fun y hy => hr1 y ((hmem y).mp hy)) (by omega) hne
      have hb4 := ((hb3.new (o := SetO w p (fun j => decide (j ∈ ns)) c) np).new (o := .lst (ns'.map V.int)) nl2)
      have k6 := (k03.trans k5).trans (keep_new (b := b) (o := .tup (ns'.map V.int)) nr)
      refine q _ r _ hC (hb4.new nr) k6 ((k03.trans k5).free (hb4.ne nr) nr) ?_
      rw [upd_same, hcv]
end
end Mk

namespace Mk
open PySem PySem.Spec PyProof.Rows L2 Mint
/-! ### what is found, as a dict -/
def kvF (F : Found) : List (Key × V) := F.map fun p => (Sum.inl p.1, V.int p.2)
theorem kvF_len (F : Found) : (kvF F).length = F.length := List.length_map _
theorem kvF_val (p : Int) : ∀ F : Found, valV (kvF F) (Sum.inl p) = (look F p).map V.int
  | [] => rfl
  | (k, v) :: r => by
    show valV ((Sum.inl k, V.int v) :: kvF r) (Sum.inl p) = _
    unfold look
    by_cases e : k = p
    · rw [valV_pos (by rw [e]), if_pos e]
      rfl
    · rw [valV_neg (fun q => e (Sum.inl.inj q)), if_neg e, kvF_val p r]
theorem kvF_put {F : Found} {p v : Int} (h : look F p = none) : putK (kvF F) (Sum.inl p) (V.int v) = kvF (F ++ [(p, v)]) := by
  rw [putK_new _ (by rw [kvF_val, h]; rfl)]
  unfold kvF
  rw [List.map_append]
  rfl
theorem dget_found {H : Hp} {a : Addr} {F : Found} (e : H a = some (.dK (kvF F))) (p : Int) : DGet H a (.int p) ((look F p).map V.int) := by
  rw [← kvF_val]
  exact DGet.k (k := Sum.inl p) e
/-- the sizes within a wave -/
theorem sizes {L : List Nat} {top n : Nat} {turn : Int} (qs : List Int) : (qs.foldl (put top turn) ((waves L top n).1, [])).1.length ≤ 2 * top + 1 ∧ (qs.foldl (put top turn) ((waves L top n).1, [])).2.length ≤ 2 * top + 1 := by
  have ok := waves_ok L (top := (top : Int)) (by omega) n
  obtain ⟨new, h1, h2, h3, _⟩ := puts (top : Int) turn qs (waves L top n).1 [] ok.nd
  rw [h1]
  have h5 : ((waves L top n).1 ++ new.map fun q => (q, turn)).length ≤ 2 * top + 1 := by
    have := few_keys (top := top) h2 fun k hk => by
      obtain ⟨⟨k', v⟩, hm, rfl⟩ := List.mem_map.1 hk
      rcases List.mem_append.1 hm with hm | hm
      · have := ok.rng k' v hm
        exact ⟨this.1, this.2.1⟩
      · obtain ⟨q, hq, e⟩ := List.mem_map.1 hm
        cases e
        exact (h3 k' hq).2
    rwa [List.length_map] at this
  refine ⟨h5, ?_⟩
  show ([] ++ new).length ≤ _
  rw [List.length_append, List.length_map] at h5
  rw [List.nil_append]
  omega
section
variable {P : Program} {w : World} {K : PySem.W.Frag} {mg : Str → Option Value} {base : Heap}
/-! ### _law_moves -/
def spLMoves (K : PySem.W.Frag) : Sp := fun vs H Q _ => ∃ (a : Addr) (L : List Nat) (top : Nat), vs = [.ref a, .int (top : Nat)] ∧ SqT K H a (cv L) ∧ L.length ≤ 5 ∧ top ≤ 2000 ∧
  ∀ H' r, Same H H' → H r = none → H' r = some (.dK (kvF (waves L top top).1)) → Q (.ref r) H'
abbrev nLMoves : List Str := ["_law_coins_here", "_law_top", "_law_found", "_law_edge", "_law_turn", "_law_fresh", "_law_price", "_law_there", "_law_coin"]
theorem scLMoves : FnScope nLMoves ["_law_coins_here", "_law_top"] (defScope sLMoves) := ⟨rfl, rfl, rfl, by decide +kernel, rfl, by decide +kernel, by decide +kernel⟩
theorem ok_lmoves {f : Addr} {fd : FuncData} (F : L2.Fun K "_law_moves" "_law_moves" sLMoves f fd) (N : Nm mg) : FnOk P w K mg base CX0 1 f fd ["_law_coins_here", "_law_top"] (spLMoves K) := by
  refine F.ok scLMoves (fun vs H Q E h => ?_) (fun cdv A outer s0 H vs Q E hr h => ?_)
  · obtain ⟨a, L, top, rfl, _⟩ := h
    rfl
  · obtain ⟨a, L, top, rfl, ha, hL, ht, q⟩ := h
    have hu := hr.un
    have hu1 : A.units + 3 + 1 < cLine := by
      have : (A.deeper (envOfC "_law_moves" (defScope sLMoves) s0.heap.objs.size f cdv)).units = A.units + 3 := rfl
      omega
    refine ⟨_, pss_cons (ps_par (i := 2) (j := 3) (by rfl) scLMoves.nd rfl rfl (by decide) rfl rfl (pa_cons pe_dnewK (pa_cons (pe_lst (pa_cons pe_int pa_nil)) pa_nil)) (by rfl))
      (pss_cons (ps_dput hu1 (pv 2) pe_int pe_int rfl)
      (pss_cons (ps_for PassesOwn.never rfl (pi_range2 (by rfl) N.range (pa_cons pe_int (pa_cons (pe_op op_add (pv 1) pe_int) pa_nil))) (pg_name (i := 4) scLMoves.nd rfl (.inl rfl))
        (pss_cons (ps_set (i := 5) scLMoves.nd rfl (.inl rfl) (pe_lst pa_nil))
        (pss_cons (ps_for PassesOwn.never rfl (pi_list (pv 3)) (pg_name (i := 6) scLMoves.nd rfl (.inr rfl))
          (pss_one (ps_for PassesOwn.never rfl (pi_list (pe_op op_cat
              (pe_lc (own := [("_law_coin", 8)]) (g := gName 8) (tt := tYes) rfl scLMoves.nd (pi_tup (pv 0)) (blkOk_by (own := [("_law_coin", 8)]) (N := nLMoves) (sc := defScope sLMoves) (by decide +kernel))
                (fun _ _ _ _ _ => pg_name (i := 8) scLMoves.nd rfl (.inl rfl)) (fun _ _ _ _ _ => pts_nil) (fun _ _ _ _ _ => pe_op op_add (pv 6) (pv 8)))
              (pe_lc (own := [("_law_coin", 8)]) (g := gName 8) (tt := tYes) rfl scLMoves.nd (pi_tup (pv 0)) (blkOk_by (own := [("_law_coin", 8)]) (N := nLMoves) (sc := defScope sLMoves) (by decide +kernel))
                (fun _ _ _ _ _ => pg_name (i := 8) scLMoves.nd rfl (.inl rfl)) (fun _ _ _ _ _ => pts_nil) (fun _ _ _ _ _ => pe_op op_sub (pv 6) (pv 8))))) (pg_name (i := 7) scLMoves.nd rfl (.inl rfl))
            (pss_one (ps_if (PW.pt (pw_and (pt_cmpR op_le (pe_callB call_abs (by rfl) N.abs (by decide +kernel) (pa_cons (pv 7) pa_nil)) (pv 1) (nomark _)) (pw_and1 (pt_cmp (pc_dnotin hu1 (pv 7) (pv 2))))))
              (pss_cons (ps_dput hu1 (pv 2) (pv 7) (pv 4) rfl)
              (pss_one (ps_expr (pe_bm PySem.F.plainAttrs_list PySem.F.slot_list_append PySem.F.type_list_append mt_append (pv 5) (pa_cons (pv 7) pa_nil))))) pss_nil)))))
        (pss_one (ps_set (i := 3) scLMoves.nd rfl (.inl rfl) (pv 5))))))
      (pss_one (ps_ret (pv 2))))), ?_⟩
    -- found, edge = {}, [0]; found[0] = 0
    intro fa nfa
    refine ⟨by show 1 ≤ sizeLine; decide, fun e0 ne0 => ⟨_, _, rfl, ?_⟩⟩
    have nfe : fa ≠ e0 := ne_of_none upd_same ne0
    have g0 : (upd (upd H fa (.dK [])) e0 (.lst [.int 0])) fa = some (.dK []) := by rw [upd_ne nfe, upd_same]
    refine ⟨_, rfl, fa, _, rfl, DPut.k (k := Sum.inl 0) g0 (by decide), ?_⟩
    have s0' : Same H (upd (upd (upd H fa (.dK [])) e0 (.lst [.int 0])) fa (.dK (putK [] (Sum.inl 0) (.int 0)))) := fun b o e => by
      rw [upd_ne (ne_of_none e nfa), upd_ne (ne_of_none ((same_new nfa) _ _ e) ne0), upd_ne (ne_of_none e nfa)]
      exact e
    -- the waves
    refine ⟨_, rfl, _, _, rfl, rfl, 1, (top : Int) + 1, rfl, ⟨by decide, by decide, by omega, by omega⟩, ?_⟩
    have en : ((top : Int) + 1 - 1).toNat = top := by omega
    rw [en]
    refine for_range (lo := 1) (n := top) (fun i σ H' => ∃ ea y4 y5 y6 y7, σ = [some (.ref a), some (.int (top : Nat)), some (.ref fa), some (.ref ea), y4, y5, y6, y7, none] ∧ Same H H' ∧
        H' fa = some (.dK (kvF (waves L top i).1)) ∧ H' ea = some (.lst ((waves L top i).2.map V.int)))
      ⟨e0, none, none, none, none, rfl, s0', by rw [upd_same]; rfl, by rw [upd_ne nfe.symm, upd_same]; rfl⟩ ?_ ?_
    · rintro i σ H1 hi ⟨ea, y4, y5, y6, y7, rfl, s1, hf, he⟩
      -- fresh = []
      refine ⟨Nat.zero_le _, fun fr nfr => ?_⟩
      have nff : fa ≠ fr := ne_of_none hf nfr
      have nef : ea ≠ fr := ne_of_none he nfr
      refine ⟨_, rfl, ea, rfl, ⟨_, SqL.of (show (upd H1 fr (.lst [])) ea = _ by rw [upd_ne nef]; exact he)⟩, ?_⟩
      generalize hFw : (waves L top i).1 = F0 at *
      generalize hEw : (waves L top i).2 = E0 at *
      have hwv : waves L top (i + 1) = E0.foldl (fun st p => (near L p).foldl (put top ((i : Int) + 1)) st) (F0, []) := by
        rw [← hFw, ← hEw]
        rfl
      have hsz : ∀ qs : List Int, (qs.foldl (put (top : Int) ((i : Int) + 1)) (F0, [])).1.length ≤ 2 * top + 1 ∧ (qs.foldl (put (top : Int) ((i : Int) + 1)) (F0, [])).2.length ≤ 2 * top + 1 := fun qs => by
        have := sizes (L := L) (top := top) (n := i) (turn := (i : Int) + 1) qs
        rw [hFw] at this
        exact this
      have eturn : (1 : Int) + (i : Int) = (i : Int) + 1 := by omega
      rw [eturn]
      refine for_list (K := K) (a := ea) (xs := E0.map V.int) (fun j σ H2 => ∃ y6 y7, σ = [some (.ref a), some (.int (top : Nat)), some (.ref fa), some (.ref ea), some (.int ((i : Int) + 1)), some (.ref fr), y6, y7, none] ∧ Same H H2 ∧
          H2 fa = some (.dK (kvF ((E0.take j).foldl (fun st p => (near L p).foldl (put top ((i : Int) + 1)) st) (F0, [])).1)) ∧
          H2 fr = some (.lst (((E0.take j).foldl (fun st p => (near L p).foldl (put top ((i : Int) + 1)) st) (F0, [])).2.map V.int)) ∧ H2 ea = some (.lst (E0.map V.int)))
        ⟨y6, y7, rfl, s1.trans (same_new nfr), by rw [upd_ne nff]; exact hf, upd_same, by rw [upd_ne nef]; exact he⟩ (fun j σ H2 _ hP => ?_) ?_ ?_
      · obtain ⟨_, _, _, _, _, _, h5⟩ := hP
        exact SqL.of h5
      · rintro j x σ H2 hx ⟨y6, y7, rfl, s2, hf2, hr2, he2⟩
        rw [List.getElem?_map] at hx
        cases hj : E0[j]? with
        | none =>
          rw [hj] at hx
          cases hx
        | some p =>
          rw [hj] at hx
          cases hx
          have hst : (E0.take (j + 1)).foldl (fun st p => (near L p).foldl (put top ((i : Int) + 1)) st) (F0, []) = (near L p).foldl (put top ((i : Int) + 1)) ((E0.take j).foldl (fun st p => (near L p).foldl (put top ((i : Int) + 1)) st) (F0, [])) := by
            rw [List.take_add_one, hj, List.foldl_append]
            rfl
          rw [hst]
          have hflat := wave_flat L (top : Int) ((i : Int) + 1) (E0.take j) (F0, [])
          generalize hS0 : (E0.take j).foldl (fun st p => (near L p).foldl (put top ((i : Int) + 1)) st) (F0, []) = st0 at *
          -- the first comprehension
          have haA : SqT K H2 a (cv L) := seqT s2 ha
          refine ⟨_, rfl, a, rfl, ⟨_, haA⟩, fun D1 nD1 => ?_⟩
          refine lc_tup (K := K) (a := a) (xs := cv L) (fun k H' => Same H2 H' ∧ H' D1 = some (.lst (((L.take k).map fun c : Nat => p + (c : Int)).map V.int)))
            ⟨same_new nD1, upd_same⟩ (fun k H' _ hP => seqT hP.1 haA) ?_ ?_
          · rintro k x H' hx ⟨sm, hD⟩
            obtain ⟨c, hc, rfl⟩ := cv_get hx
            have hk : k < L.length := (List.getElem?_eq_some_iff.mp hc).1
            refine ⟨rfl, _, rfl, _, rfl, _, _, rfl, rfl, _, hD, ?_, fun b o e => ?_, ?_⟩
            · rw [List.length_map, List.length_map, List.length_take]
              exact small (by omega)
            · rw [upd_ne (ne_of_none e nD1)]
              exact sm _ _ e
            · rw [upd_same, List.take_add_one, hc, List.map_append, List.map_append]
              rfl
          rintro H3 ⟨s3, hD1⟩
          rw [cv_len, List.take_length] at hD1
          have s03 := s2.trans s3
          -- the second one
          have haB : SqT K H3 a (cv L) := seqT s03 ha
          refine ⟨_, rfl, a, rfl, ⟨_, haB⟩, fun D2 nD2 => ?_⟩
          refine lc_tup (K := K) (a := a) (xs := cv L) (fun k H' => Same H3 H' ∧ H' D2 = some (.lst (((L.take k).map fun c : Nat => p - (c : Int)).map V.int)))
            ⟨same_new nD2, upd_same⟩ (fun k H' _ hP => seqT hP.1 haB) ?_ ?_
          · rintro k x H' hx ⟨sm, hD⟩
            obtain ⟨c, hc, rfl⟩ := cv_get hx
            have hk : k < L.length := (List.getElem?_eq_some_iff.mp hc).1
            refine ⟨rfl, _, rfl, _, rfl, _, _, rfl, rfl, _, hD, ?_, fun b o e => ?_, ?_⟩
            · rw [List.length_map, List.length_map, List.length_take]
              exact small (by omega)
            · rw [upd_ne (ne_of_none e nD2)]
              exact sm _ _ e
            · rw [upd_same, List.take_add_one, hc, List.map_append, List.map_append]
              rfl
          rintro H4 ⟨s4, hD2⟩
          rw [cv_len, List.take_length] at hD2
          have s24 := s3.trans s4
          -- both together
          refine ⟨D1, D2, _, _, rfl, rfl, s4 _ _ hD1, hD2, ?_, fun D3 nD3 => ?_⟩
          · rw [List.length_map, List.length_map, List.length_map, List.length_map]
            exact Nat.le_of_lt (small (by omega))
          have enear : (L.map fun c : Nat => p + (c : Int)).map V.int ++ (L.map fun c : Nat => p - (c : Int)).map V.int = (near L p).map V.int := by
            unfold near
            rw [List.map_append]
          rw [enear]
          have s25 : Same H2 (upd H4 D3 (.lst ((near L p).map V.int))) := s24.trans (same_new nD3)
          have hr4 := s24 _ _ hr2
          have nD3r : D3 ≠ fr := (ne_of_none hr4 nD3).symm
          refine ⟨D3, rfl, ⟨_, SqL.of upd_same⟩, ?_⟩
          refine for_list (K := K) (a := D3) (xs := (near L p).map V.int) (fun k σ H' => ∃ y7, σ = [some (.ref a), some (.int (top : Nat)), some (.ref fa), some (.ref ea), some (.int ((i : Int) + 1)), some (.ref fr), some (.int p), y7, none] ∧ Same H H' ∧
              H' fa = some (.dK (kvF (((near L p).take k).foldl (put top ((i : Int) + 1)) st0).1)) ∧ H' fr = some (.lst ((((near L p).take k).foldl (put top ((i : Int) + 1)) st0).2.map V.int)) ∧
              H' ea = some (.lst (E0.map V.int)) ∧ H' D3 = some (.lst ((near L p).map V.int)))
            ⟨y7, rfl, s2.trans s25, s25 _ _ hf2, s25 _ _ hr2, s25 _ _ he2, upd_same⟩ (fun k σ H' _ hP => ?_) ?_ ?_
          · obtain ⟨_, _, _, _, _, _, h6⟩ := hP
            exact SqL.of h6
          · rintro k x σ H' hx ⟨y7, rfl, s6, hf6, hr6, he6, hd6⟩
            rw [List.getElem?_map] at hx
            cases hk : (near L p)[k]? with
            | none =>
              rw [hk] at hx
              cases hx
            | some v =>
              rw [hk] at hx
              cases hx
              have hst2 : ((near L p).take (k + 1)).foldl (put top ((i : Int) + 1)) st0 = put top ((i : Int) + 1) (((near L p).take k).foldl (put top ((i : Int) + 1)) st0) v := by
                rw [List.take_add_one, hk, List.foldl_append]
                rfl
              have hz := hsz (((E0.take j).flatMap (near L)) ++ (near L p).take k)
              rw [List.foldl_append, ← hflat] at hz
              rw [hst2]
              generalize hS : ((near L p).take k).foldl (put top ((i : Int) + 1)) st0 = st at *
              have nfr2 : fa ≠ fr := ne_of hf6 hr6 (fun z => nomatch z)
              have nea : ea ≠ fa := ne_of he6 hf6 (fun z => nomatch z)
              have nda : D3 ≠ fa := ne_of hd6 hf6 (fun z => nomatch z)
              -- abs(there) <= top
              refine ⟨_, rfl, v, rfl, _, rfl, _, _, rfl, rfl, _, rfl, ?_⟩
              refine ite2 (fun e => ?_) (fun e => ?_)
              · have hle : (if v < 0 then -v else v) ≤ (top : Int) := of_decide_eq_true e
                have hin : -(top : Int) ≤ v ∧ v ≤ (top : Int) := by
                  split at hle <;> omega
                refine ⟨_, rfl, _, rfl, fa, _, rfl, dget_found hf6 v, _, rfl, ?_⟩
                cases hl : look st.1 v with
                | some u =>
                  have ep : put top ((i : Int) + 1) st v = st := by
                    unfold put
                    rw [if_neg]
                    rintro ⟨_, h⟩
                    rw [hl] at h
                    cases h
                  rw [ep]
                  exact iteF ⟨_, rfl, s6, hf6, hr6, he6, hd6⟩
                | none =>
                  have ep : put top ((i : Int) + 1) st v = (st.1 ++ [(v, (i : Int) + 1)], st.2 ++ [v]) := by
                    unfold put
                    rw [if_pos ⟨hin, hl⟩]
                  rw [ep]
                  refine iteT ⟨_, rfl, _, rfl, _, rfl, fa, _, rfl, DPut.k (k := Sum.inl v) hf6 (by rw [kvF_len]; exact small (by omega)), ?_⟩
                  rw [kvF_put hl]
                  have hr7 : (upd H' fa (.dK (kvF (st.1 ++ [(v, (i : Int) + 1)])))) fr = some (.lst (st.2.map V.int)) := by
                    rw [upd_ne nfr2.symm]
                    exact hr6
                  refine ⟨_, rfl, .inl ⟨rfl, _, SqL.of hr7⟩, _, rfl, fr, _, _, rfl, rfl, hr7, by rw [List.length_map]; exact small (by omega), ?_⟩
                  refine ⟨_, rfl, fun b o e2 => ?_, ?_, ?_, ?_, ?_⟩
                  · have n1 : b ≠ fr := fun z => by
                      rw [z, s1.free nfr] at e2
                      cases e2
                    have n2 : b ≠ fa := fun z => by
                      rw [z, nfa] at e2
                      cases e2
                    rw [upd_ne n1, upd_ne n2]
                    exact s6 _ _ e2
                  · rw [upd_ne nfr2, upd_same]
                  · rw [upd_same, List.map_append]
                    rfl
                  · rw [upd_ne nef, upd_ne nea]
                    exact he6
                  · rw [upd_ne nD3r, upd_ne nda]
                    exact hd6
              · have ep : put top ((i : Int) + 1) st v = st := by
                  unfold put
                  rw [if_neg]
                  rintro ⟨⟨h1, h2⟩, _⟩
                  refine e (decide_eq_true ?_)
                  show (if v < 0 then -v else v) ≤ (top : Int)
                  split <;> omega
                rw [ep]
                exact iteF ⟨_, rfl, s6, hf6, hr6, he6, hd6⟩
          · rintro σ H' ⟨y7, rfl, s6, hf6, hr6, he6, hd6⟩
            rw [List.length_map, List.take_length] at hf6 hr6
            exact ⟨_, _, rfl, s6, hf6, hr6, he6⟩
      · rintro σ H2 ⟨y6, y7, rfl, s2, hf2, hr2, he2⟩
        rw [List.length_map, List.take_length, ← hwv] at hf2 hr2
        exact ⟨_, rfl, fr, _, _, _, _, rfl, s2, hf2, hr2⟩
    · rintro σ H' ⟨ea, y4, y5, y6, y7, rfl, s1, hf, he⟩
      exact ⟨_, rfl, q _ fa s1 nfa hf⟩
end
end Mk

namespace Mk
open PySem PySem.Spec PyProof.Rows L2 Mint
theorem cv_len2 (C : List Nat) (G : Nat) : (cv (C ++ [G])).length = C.length + 1 := by
  rw [cv_len, List.length_append]
  rfl
/-- the coin ahead of the greatest one -/
theorem ahead {C : List Nat} {G : Nat} (h : Lots C G) : ∃ D : Nat, (∀ c ∈ C, c ≤ D) ∧ (C = [] → D = 0) ∧ D < 24 ∧ (C ≠ [] → atI (cv (C ++ [G])) (-2) = some (.int (D : Nat))) := by
  rcases List.eq_nil_or_concat C with e | ⟨C', D, e⟩
  · refine ⟨0, ?_, fun _ => rfl, by decide, fun z => absurd e z⟩
    rw [e]
    intro c hc
    cases hc
  · have e' : C = C' ++ [D] := by rw [e]; exact List.concat_eq_append
    have hDG : D < G := h.sm.lt D (by rw [e']; simp)
    have hT := h.top
    refine ⟨D, fun c hc => ?_, fun z => ?_, by omega, fun _ => ?_⟩
    · rw [e'] at hc
      rcases List.mem_append.1 hc with hc | hc
      · have ha := (List.pairwise_append.mp h.asc).1
        rw [e'] at ha
        exact Nat.le_of_lt ((List.pairwise_append.mp ha).2.2 c hc D (by simp))
      · rw [List.mem_singleton.mp hc]
        exact Nat.le_refl _
    · rw [e'] at z
      simp at z
    · rw [e']
      have hl : (cv (C' ++ [D] ++ [G])).length = C'.length + 2 := by
        rw [cv_len]
        simp
      have e1 : ixN (cv (C' ++ [D] ++ [G])).length (-2) = some C'.length := by
        rw [hl]
        unfold ixN
        rw [if_neg (by omega), if_pos (by omega)]
        congr 1
        omega
      unfold atI
      rw [e1]
      show (cv (C' ++ [D] ++ [G]))[C'.length]? = _
      refine cv_at ?_
      rw [List.append_assoc, List.getElem?_append_right (Nat.le_refl _), Nat.sub_self]
      rfl
section
variable {P : Program} {w : World} {K : PySem.W.Frag} {mg : Str → Option Value} {base : Heap}
/-! ### _law_due -/
def spDue (K : PySem.W.Frag) : Sp := fun vs H Q _ => ∃ (a : Addr) (C : List Nat) (G : Nat), vs = [.ref a] ∧ SqT K H a (cv (C ++ [G])) ∧ Lots C G ∧
  ∀ H' r, Same H H' → H r = none → H' r = some (.tup ((table G C).map ov)) → Q (.ref r) H'
theorem scDue : FnScope ["_law_coins_here", "_law_greatest", "_law_edge", "_law_found", "_law_least_here", "_law_price", "_law_rest", "_law_loss"] ["_law_coins_here"] (defScope sDue) := ⟨rfl, rfl, rfl, by decide +kernel, rfl, by decide +kernel, by decide +kernel⟩
theorem ok_due {f : Addr} {fd : FuncData} (F : L2.Fun K "_law_due" "_law_due" sDue f fd) (N : Nm mg) (M : C8.Cal P w K mg base 1 "_law_moves" (spLMoves K) []) : FnOk P w K mg base CX0 2 f fd ["_law_coins_here"] (spDue K) := by
  refine F.ok scDue (fun vs H Q E h => ?_) (fun cdv A outer s0 H vs Q E hr h => ?_)
  · obtain ⟨a, C, G, rfl, _⟩ := h
    rfl
  · obtain ⟨a, C, G, rfl, ha, hL, q⟩ := h
    have hu1 := hu_of hr
    refine ⟨_, pss_cons (ps_set (i := 1) scDue.nd rfl (.inl rfl) (pe_ix ix_tup (pv 0) (pe_un un_neg pe_int) (fun _ _ => rfl)))
      (C8.pss_cut (ps_set (i := 2) scDue.nd rfl (.inl rfl) (pe_ifExp (pt_cmpR op_gt (pe_callB call_len_seq (by rfl) N.len PySem.boot_len (pa_cons (pv 0) pa_nil)) pe_int (nomark _))
          (pe_op op_mul (pe_op op_sub (pv 1) pe_int) (pe_ix ix_tup (pv 0) (pe_un un_neg pe_int) (fun _ _ => rfl))) pe_int))
      (pss_cons (ps_par (i := 3) (j := 4) (by rfl) scDue.nd rfl rfl (by decide) rfl rfl (pa_cons (C8.pe_c M hr (Nat.le_refl _) (by rfl) (pa_cons (pv 0) (pa_cons (pe_op op_add (pv 2) (pe_op op_mul pe_int (pv 1))) pa_nil)))
          (pa_cons (pe_op op_rep (pe_lst (pa_cons pe_non pa_nil)) (pv 1)) pa_nil)) (by rfl))
      (pss_cons (ps_for PassesOwn.never rfl (pi_range2 (by rfl) N.range (pa_cons (pe_un un_neg (pv 2)) (pa_cons (pe_op op_add (pv 2) pe_int) pa_nil))) (pg_name (i := 5) scDue.nd rfl (.inl rfl))
        (pss_one (ps_if (pt_cmp (pc_din hu1 (pv 5) (pv 3)))
          (pss_cons (ps_par (i := 6) (j := 7) (by rfl) scDue.nd rfl rfl (by decide) rfl rfl (pa_cons (pe_op op_modN (pe_callTy call_int1 (by rfl) N.int (by decide +kernel) (pa_cons (pv 5) pa_nil)) (pv 1))
              (pa_cons (pe_op op_sub (pe_op op_mul (pv 1) (pe_dget hu1 (pv 3) (pv 5) (fun _ _ => rfl))) (pv 5)) pa_nil)) (by rfl))
          (pss_one (ps_asg (pe_ifExp (pt_cmpR op_isN (pe_ix ix_list (pv 4) (pv 6) (fun _ _ => rfl)) pe_non (nomark _)) (pv 7)
              (pe_callB (call_min2 rfl) (by rfl) N.min (by decide +kernel) (pa_cons (pe_ix ix_list (pv 4) (pv 6) (fun _ _ => rfl)) (pa_cons (pv 7) pa_nil)))) (pg_sub (pv 4) (pv 6) set_list)))) pss_nil)))
      (pss_one (ps_ret (pe_callTy call_tuple_of (by rfl) N.tuple (by decide +kernel) (pa_cons (pv 4) pa_nil))))))), ?_⟩
    have hG := hL.sm.pos
    have hT := hL.top
    have hfew := hL.few
    obtain ⟨D, hD1, hD2, hD3, hD4⟩ := ahead hL
    obtain ⟨E, hE⟩ : ∃ E, E = (G - 1) * D := ⟨_, rfl⟩
    have hEb : E ≤ 24 * 24 := by
      rw [hE]
      exact Nat.mul_le_mul (by omega) (by omega)
    have ha' : SqT K H a (cv C ++ [.int (G : Nat)]) := by rw [← cv_snoc]; exact ha
    -- greatest
    refine ⟨_, rfl, 1, rfl, a, _, -1, _, rfl, rfl, ha', atI_last _ _, ?_⟩
    -- edge
    refine ⟨fun σ' H' => σ' = [some (.ref a), some (.int (G : Nat)), some (.int (E : Nat)), none, none, none, none, none] ∧ H' = H, ?_, ?_⟩
    · refine ⟨_, rfl, a, _, rfl, .inr ha, _, _, rfl, rfl, _, rfl, ?_⟩
      refine ite2 (fun e => ?_) (fun e => ?_)
      · have hlen : (1 : Int) < ((cv (C ++ [G])).length : Int) := of_decide_eq_true e
        rw [cv_len2] at hlen
        have hne : C ≠ [] := by
          rintro rfl
          simp at hlen
        refine ⟨_, rfl, _, _, rfl, rfl, _, rfl, 2, rfl, a, _, -2, _, rfl, rfl, ha, hD4 hne, _, _, rfl, rfl, .inl ⟨by omega, by omega⟩, ?_, rfl⟩
        have ee : ((G : Int) - 1) * (D : Int) = ((E : Nat) : Int) := by
          rw [hE, Int.natCast_mul, Int.ofNat_sub hG]
          rfl
        show [some (V.ref a), some (V.int (G : Int)), some (V.int (((G : Int) - 1) * (D : Int))), none, none, none, none, none] = _
        rw [ee]
      · have hlen : ¬ (1 : Int) < ((cv (C ++ [G])).length : Int) := fun z => e (decide_eq_true z)
        rw [cv_len2] at hlen
        have hnil : C = [] := by
          cases C with
          | nil => rfl
          | cons c r =>
            rw [List.length_cons] at hlen
            omega
        have hE0 : E = 0 := by
          rw [hE, hD2 hnil, Nat.mul_zero]
        rw [hE0]
        exact ⟨rfl, rfl⟩
    rintro σ' H' ⟨rfl, rfl⟩
    -- found, least
    refine ⟨_, rfl, _, rfl, _, rfl, _, _, rfl, rfl, .inl ⟨by decide, by decide⟩, _, _, rfl, rfl, ?_⟩
    refine ⟨a, C ++ [G], E + 2 * G, ?_, ha, by rw [List.length_append]; show C.length + 1 ≤ 5; omega, by omega, fun H1 fa s1 nfa hfa => ?_⟩
    · show [V.ref a, V.int ((E : Int) + 2 * (G : Int))] = _
      rw [show (E : Int) + 2 * (G : Int) = ((E + 2 * G : Nat) : Int) by omega]
    generalize hF : (waves (C ++ [G]) ((E + 2 * G : Nat) : Int) (E + 2 * G)).1 = F0 at *
    refine ⟨by show 1 ≤ sizeLine; decide, fun o1 n1 => ?_⟩
    refine ⟨_, rfl, o1, _, _, rfl, rfl, upd_same, by omega, by omega, ?_, fun lr nlr => ⟨_, _, rfl, ?_⟩⟩
    · show 1 * (G : Int).toNat ≤ sizeLine
      exact Nat.le_of_lt (small (by omega))
    rw [Int.toNat_natCast, flat_rep]
    have e0 : List.replicate G V.non = (dueN G F0 (E : Int) 0).map ov := by
      rw [dueN, List.map_replicate]
      rfl
    rw [e0]
    have s2 : Same H1 (upd H1 o1 (.lst [.non])) := same_new n1
    generalize hH2 : upd H1 o1 (.lst [.non]) = H2 at *
    have hfa2 := s2 _ _ hfa
    have nfl : fa ≠ lr := ne_of_none hfa2 nlr
    have s02 := s1.trans s2
    -- the prices
    refine ⟨_, rfl, _, rfl, _, rfl, _, _, rfl, rfl, -(E : Int), (E : Int) + 1, rfl, ⟨by omega, by omega, by omega, by omega⟩, ?_⟩
    have en : ((E : Int) + 1 - -(E : Int)).toNat = 2 * E + 1 := by omega
    rw [en]
    refine for_range (lo := -(E : Int)) (n := 2 * E + 1) (fun i σ H' => ∃ y5 y6 y7, σ = [some (.ref a), some (.int (G : Nat)), some (.int (E : Nat)), some (.ref fa), some (.ref lr), y5, y6, y7] ∧ H' = upd H2 lr (.lst ((dueN G F0 (E : Int) i).map ov)))
      ⟨none, none, none, rfl, rfl⟩ ?_ ?_
    · rintro i σ H' hi ⟨y5, y6, y7, rfl, rfl⟩
      have hf3 : (upd H2 lr (.lst ((dueN G F0 (E : Int) i).map ov))) fa = some (.dK (kvF F0)) := by
        rw [upd_ne nfl]
        exact hfa2
      have hTl := dueN_len G F0 (E : Int) i
      have hstep : dueN G F0 (E : Int) (i + 1) = dueStep G F0 (dueN G F0 (E : Int) i) (-(E : Int) + (i : Int)) := rfl
      generalize -(E : Int) + (i : Int) = p at *
      refine ⟨_, rfl, _, rfl, fa, _, rfl, dget_found hf3 p, _, rfl, ?_⟩
      cases hl : look F0 p with
      | none =>
        refine iteF ⟨_, _, _, rfl, ?_⟩
        have : dueStep G F0 (dueN G F0 (E : Int) i) p = dueN G F0 (E : Int) i := by
          unfold dueStep
          rw [hl]
        rw [hstep, this]
      | some d =>
        have hd : DGet (upd H2 lr (.lst ((dueN G F0 (E : Int) i).map ov))) fa (.int p) (some (.int d)) := by
          have := dget_found hf3 p
          rw [hl] at this
          exact this
        have er : Int.fmod p (G : Int) = ((rest G p : Nat) : Int) := by
          rw [Int.fmod_eq_emod_of_nonneg _ (Int.natCast_nonneg _), rest_cast hG]
        have hrl : rest G p < (dueN G F0 (E : Int) i).length := by
          rw [hTl]
          exact rest_lt hG p
        generalize dueN G F0 (E : Int) i = T at *
        refine iteT ⟨_, rfl, .inl ⟨_, rfl, ?_⟩⟩
        refine ⟨_, rfl, _, _, rfl, rfl, by show (G : Int) ≠ 0; omega, ?_⟩
        refine ⟨_, rfl, _, rfl, _, rfl, fa, _, rfl, hd, _, _, rfl, rfl, .inl ⟨by omega, by omega⟩, _, rfl, _, _, rfl, rfl, ⟨_, _, rfl, ?_⟩⟩
        have ixn : ∀ {n : Nat}, rest G p < n → ixN n (Int.fmod p (G : Int)) = some (rest G p) := fun {n} hn => by
          rw [er]
          exact ixN_natx hn
        have hsq : SqL K (upd H2 lr (.lst (T.map ov))) lr (T.map ov) := SqL.of upd_same
        refine ⟨_, rfl, _, rfl, lr, _, _, _, rfl, rfl, hsq, at_of er (ov_get hrl), rfl, _, rfl, ?_⟩
        rw [ov_none]
        cases ho : T.getD (rest G p) none with
        | none =>
          refine iteT ⟨_, rfl, _, rfl, _, rfl, lr, _, _, rest G p, rfl, rfl, upd_same, ?_, ?_⟩
          · rw [List.length_map]
            exact ixn hrl
          · rw [upd_upd]
            refine ⟨_, _, _, rfl, ?_⟩
            have : dueStep G F0 T p = T.set (rest G p) (some ((G : Int) * d - p)) := by
              unfold dueStep
              rw [hl]
              dsimp only
              rw [ho]
            rw [hstep, this, ← ov_set]
            rfl
        | some y =>
          refine iteF ⟨_, rfl, _, rfl, lr, _, _, _, rfl, rfl, hsq, at_of er (ov_get hrl), _, rfl, y, (G : Int) * d - p, ?_, ?_⟩
          · rw [ho]
            rfl
          · refine ⟨_, rfl, _, rfl, lr, _, _, rest G p, rfl, rfl, upd_same, ?_, ?_⟩
            · rw [List.length_map]
              exact ixn hrl
            · rw [upd_upd]
              refine ⟨_, _, _, rfl, ?_⟩
              have : dueStep G F0 T p = T.set (rest G p) (some (if (G : Int) * d - p < y then (G : Int) * d - p else y)) := by
                unfold dueStep
                rw [hl]
                dsimp only
                rw [ho]
              rw [hstep, this, ← ov_set]
              rfl
    · rintro σ H' ⟨y5, y6, y7, rfl, rfl⟩
      have hres : dueN G F0 (E : Int) (2 * E + 1) = table G C := by
        rw [← hF, hE]
        exact same_tables hL.sm hD1 hD2
      rw [hres]
      refine ⟨_, rfl, lr, _, rfl, .inl ⟨SqL.of upd_same, fun r nr => ?_⟩⟩
      have s3 : Same H2 (upd H2 lr (.lst ((table G C).map ov))) := same_new nlr
      exact q _ r ((s02.trans s3).trans (same_new nr)) ((s02.trans s3).free nr) upd_same
end
end Mk

namespace Mk
open PySem PySem.Spec PyProof.Rows L2 Mint
/-! ### lots -/
theorem lots_of {L : List Nat} (h : Coins L) : ∃ C G, L = C ++ [G] ∧ Lots C G := by
  rcases List.eq_nil_or_concat L with e | ⟨C, G, e⟩
  · exact absurd e h.ne
  · have e' : L = C ++ [G] := by rw [e]; exact List.concat_eq_append
    subst e'
    have hG := h.rng G (by simp)
    have ha := List.pairwise_append.mp h.asc
    refine ⟨C, G, rfl, ⟨by omega, fun c hc => ha.2.2 c hc G (by simp)⟩, hG.2, fun c hc => (h.rng c (List.mem_append_left _ hc)).1, h.asc, ?_⟩
    have := h.few
    rw [List.length_append] at this
    have h1 : ([G] : List Nat).length = 1 := rfl
    omega
/-- the losses are not great -/
theorem table_small {C : List Nat} {G : Nat} (h : Lots C G) {r : Nat} {x : Int} (hx : (table G C).getD r none = some x) : x.natAbs < 10 ^ 12 := by
  obtain ⟨D, hD1, hD2, hD3, _⟩ := ahead h
  rw [← same_tables h.sm hD1 hD2] at hx
  have hE : (G - 1) * D ≤ 24 * 24 := Nat.mul_le_mul (by have := h.top; omega) (by omega)
  generalize (G - 1) * D = E at *
  have hok := waves_ok (C ++ [G]) (top := ((E + 2 * G : Nat) : Int)) (by omega) (E + 2 * G)
  obtain ⟨p, d, hd, _, rfl⟩ := dueN_sound h.sm.pos _ _ _ hx
  have hr := hok.rng p d (look_some hd)
  have hT := h.top
  have h1 : (G : Int) * d ≤ 24 * 1000 := Int.mul_le_mul (by omega) (by omega) hr.2.2.1 (by omega)
  have h2 : 0 ≤ (G : Int) * d := Int.mul_nonneg (by omega) hr.2.2.1
  generalize (G : Int) * d = z at *
  omega
theorem vals_small {C : List Nat} {G : Nat} (h : Lots C G) {m : Int} (hm : m ∈ vals (table G C)) : m.natAbs < 10 ^ 12 := by
  obtain ⟨o, ho, e⟩ := List.mem_filterMap.mp hm
  have e' : o = some m := e
  subst e'
  obtain ⟨r, hr, he⟩ := List.getElem_of_mem ho
  refine table_small h (r := r) ?_
  rw [List.getD_eq_getElem?_getD, List.getElem?_eq_getElem hr, he]
  rfl
theorem fine_tab {C : List Nat} {G : Nat} (h : Lots C G) : Fine (.tuple ((table G C).map od)) 1 24 := by
  have f := Fine.tup (ds := (table G C).map od) (k := 0) (b := 0) fun d hd => by
    obtain ⟨o, ho, rfl⟩ := List.mem_map.1 hd
    cases o with
    | none => exact Fine.non
    | some x =>
      obtain ⟨r, hr, he⟩ := List.getElem_of_mem ho
      refine Fine.int (table_small h (r := r) ?_)
      rw [List.getD_eq_getElem?_getD, List.getElem?_eq_getElem hr, he]
      rfl
  refine f.mono (by omega) ?_
  rw [List.length_map, table_len h.sm.pos]
  have := h.top
  omega
theorem fine_pair {C : List Nat} {G : Nat} (h : Lots C G) {m : Int} (hm : m ∈ vals (table G C)) : Fine (.tuple [.int m, .tuple ((restsN (table G C) m G).map fun c : Nat => PyData.int (c : Int))]) 2 50 := by
  have hT := h.top
  have f := Fine.tup (ds := (restsN (table G C) m G).map fun c : Nat => PyData.int (c : Int)) (k := 0) (b := 0) fun d hd => by
    obtain ⟨c, hc, rfl⟩ := List.mem_map.1 hd
    refine Fine.int ?_
    have hc2 : c < G := List.mem_range.mp (List.mem_filter.mp hc).1
    rw [Int.natAbs_natCast]
    exact Nat.lt_of_lt_of_le (show c < 24 by omega) (by decide)
  have hl : (restsN (table G C) m G).length ≤ G := restsN_len _ _ _
  have f2 : Fine (.tuple ((restsN (table G C) m G).map fun c : Nat => PyData.int (c : Int))) 1 24 := f.mono (by omega) (by rw [List.length_map]; omega)
  exact (Fine.tup (ds := [.int m, .tuple ((restsN (table G C) m G).map fun c : Nat => PyData.int (c : Int))]) (k := 1) (b := 24) fun d hd => by
    rcases List.mem_cons.1 hd with rfl | hd
    · exact Fine.int (vals_small h hm)
    · rw [List.mem_singleton.mp hd]
      exact f2).mono (by omega) (by show (24 + 1) * 2 ≤ 50; decide)
theorem fine_two {d : PyData} {k b : Nat} (f : Fine d k b) (hb : b ≤ 1000) : Fine (.list [d, d]) (k + 1) 2002 := by
  refine (Fine.lst (ds := [d, d]) (k := k) (b := b) fun x hx => ?_).mono (Nat.le_refl _) ?_
  · rcases List.mem_cons.1 hx with rfl | hx
    · exact f
    · rw [List.mem_singleton.mp hx]
      exact f
  · show (b + 1) * 2 ≤ 2002
    omega
section
variable {P : Program} {w : World} {K : PySem.W.Frag} {mg : Str → Option Value} {base : Heap}
theorem dp_two {H : Hp} {a x y : Addr} {d : PyData} (h : H a = some (.lst [.ref x, .ref y])) (hx : Dp K H (.ref x) d) (hy : Dp K H (.ref y) d) : Dp K H (.ref a) (.list [d, d]) := .lst (SqL.of h) (.cons hx (.cons hy .nil))
/-! ### _law_right -/
def spRight : Sp := fun vs H Q _ => ∃ b, vs = [.ref b] ∧ BagAt H b ∧ ∀ H', Keep b H H' → Q (.bl true) H'
abbrev nRight : List Str := ["_law_bag_here", "_law_coins_here", "_law_lot", "_law_due_here", "_law_worst", "_law_pair", "_law_loss", "_law_rest"]
theorem scRight : FnScope nRight ["_law_bag_here"] (defScope sRight) := ⟨rfl, rfl, rfl, by decide +kernel, rfl, by decide +kernel, by decide +kernel⟩
theorem ok_right {f Cl : Addr} {fd : FuncData} (F : L2.Fun K "_law_right" "_law_right" sRight f fd) (N : Nm mg) (LC : C8.Cal P w K mg base 3 "_law_coins" spLCoins []) (LS : C8.Cal P w K mg base 2 "_law_some" spSome [])
    (Mak : C8.Mak P w K mg base 4 "Lot" Cl (spInit Cl) []) (Due : C8.Cal P w K mg base 2 "_law_due" (spDue K) []) (Los : C8.Cal P w K mg base 5 "moved_losses" (spLosses K Cl) []) (LosK : MkG.CalK P w K mg base 5 "moved_losses" ["lot"] (spLosses K Cl))
    (Wor : C8.Cal P w K mg base 5 "worst_rests" (spWorst K Cl) []) (WorK : MkG.CalK P w K mg base 5 "worst_rests" ["lot"] (spWorst K Cl)) : MkG.FnG P w K mg base 6 f fd ["_law_bag_here"] spRight := by
  refine MkG.fnG F scRight (fun vs H Q E h => ?_) (fun cdv A outer s0 H vs Q E hG0 hr h => ?_)
  · obtain ⟨b, rfl, _⟩ := h
    rfl
  · obtain ⟨b, rfl, hb, q⟩ := h
    have hG : (A.deeper (envOfC "_law_right" (defScope sRight) s0.heap.objs.size f cdv)).guards = some [] := hG0
    refine ⟨_, pss_cons (ps_set (i := 1) scRight.nd rfl (.inl rfl) (C8.pe_c LC hr (by decide) (by rfl) (pa_cons (pv 0) (pa_cons pe_int (pa_cons (C8.pe_c LS hr (by decide) (by rfl) (pa_cons (pv 0) (pa_cons (pe_lst (pa_cons pe_int (pa_cons pe_int (pa_cons pe_int (pa_cons pe_int pa_nil))))) pa_nil))) pa_nil)))))
      (pss_cons (ps_asg (pe_tup (pa_cons (C8.pe_mk Mak hr (by decide) (by rfl) (pa_cons (pv 1) pa_nil)) (pa_cons (C8.pe_c Due hr (by decide) (by rfl) (pa_cons (pv 1) pa_nil)) pa_nil)))
          (pg_tup rfl (pgs_cons (pg_name (i := 2) scRight.nd rfl (.inl rfl)) (pgs_cons (pg_name (i := 3) scRight.nd rfl (.inr rfl)) pgs_nil))))
      (pss_cons (ps_if (pt_cmpR op_ne (pe_callB (MkG.cr_rep hG hr) (by rfl) N.repr (by decide +kernel) (pa_cons (pe_lst (pa_cons (C8.pe_c Los hr (by decide) (by rfl) (pa_cons (pv 2) pa_nil)) (pa_cons (MkG.pe_k LosK hr (by decide) (by rfl) (pk_cons (pv 2) pk_nil)) pa_nil))) pa_nil))
            (pe_callB (MkG.cr_rep hG hr) (by rfl) N.repr (by decide +kernel) (pa_cons (pe_lst (pa_cons (pv 3) (pa_cons (pv 3) pa_nil))) pa_nil)) (nomark _)) (pss_one (ps_ret pe_bl)) pss_nil)
      (pss_cons (ps_set (i := 4) scRight.nd rfl (.inr rfl) (pe_callB (cr_max rfl) (by rfl) N.max (by decide +kernel) (pa_cons
        (pe_lc (own := [("_law_loss", 6)]) (g := gName 6) rfl scRight.nd (pi_tup (pv 3)) (blkOk_by (own := [("_law_loss", 6)]) (N := nRight) (sc := defScope sRight) (by decide +kernel))
          (fun _ _ _ _ _ => pg_name (i := 6) scRight.nd rfl (.inl rfl)) (fun _ _ _ _ _ => pts_one (pt_cmpR op_notN (pv 6) pe_non (nomark _))) (fun _ _ _ _ _ => pv 6)) pa_nil)))
      (pss_cons (ps_set (i := 5) scRight.nd rfl (.inl rfl) (pe_tup (pa_cons (pv 4) (pa_cons (pe_callTy call_tuple_of (by rfl) N.tuple (by decide +kernel) (pa_cons
        (pe_lc (own := [("_law_rest", 7)]) (g := gName 7) (tt := tTest (tOp rEq (tOp (rIxT K) (tVar 3) (tVar 7)) (tVar 4))) rfl scRight.nd (pi_range1 (by rfl) N.range (pa_cons (pe_callB call_len_seq (by rfl) N.len PySem.boot_len (pa_cons (pv 3) pa_nil)) pa_nil)) (blkOk_by (own := [("_law_rest", 7)]) (N := nRight) (sc := defScope sRight) (by decide +kernel))
          (fun _ _ _ _ _ => pg_name (i := 7) scRight.nd rfl (.inl rfl)) (fun _ _ _ _ _ => pts_one (pt_cmpR op_eq (pe_ix ix_tup (pv 3) (pv 7) (fun _ _ => rfl)) (pv 4) (nomark _))) (fun _ _ _ _ _ => pv 7)) pa_nil)) pa_nil))))
      (pss_one (ps_ret (pe_cmpR op_eq (pe_callB (MkG.cr_rep hG hr) (by rfl) N.repr (by decide +kernel) (pa_cons (pe_lst (pa_cons (C8.pe_c Wor hr (by decide) (by rfl) (pa_cons (pv 2) pa_nil)) (pa_cons (MkG.pe_k WorK hr (by decide) (by rfl) (pk_cons (pv 2) pk_nil)) pa_nil))) pa_nil))
            (pe_callB (MkG.cr_rep hG hr) (by rfl) N.repr (by decide +kernel) (pa_cons (pe_lst (pa_cons (pv 5) (pa_cons (pv 5) pa_nil))) pa_nil)) (nomark _)))))))), ?_⟩
    -- the coins
    refine ⟨_, rfl, _, rfl, by show 4 ≤ sizeLine; decide, fun l nl => ?_⟩
    have k0 : Keep b H (upd H l (.lst ([8, 14, 14, 24].map V.int))) := keep_new nl
    refine ⟨b, l, [8, 14, 14, 24], rfl, hb.new nl, upd_same, hb.ne nl, by decide, by decide, fun H1 top htop hb1 k1 => ?_⟩
    have htop2 : top = 8 ∨ top = 14 ∨ top = 24 := by
      simp at htop
      omega
    have etop : top = ((top.toNat : Nat) : Int) := by omega
    refine ⟨b, 5, top.toNat, by rw [← etop]; rfl, hb1, by decide, by decide, by omega, by omega, fun H2 r L hL hb2 k2 nr hrt => ?_⟩
    have k02 : Keep b H H2 := (k0.trans k1).trans k2
    obtain ⟨C, G, rfl, hLo⟩ := lots_of hL
    have hT := hLo.top
    -- the lot
    refine ⟨_, rfl, fun x dx nx ndx nex => ?_⟩
    have rx : r ≠ x := ne_of_none hrt nx
    have rdx : r ≠ dx := ne_of_none hrt ndx
    refine ⟨x, dx, r, C ++ [G], rfl, upd_same, by rw [upd_ne rx, upd_ne rdx]; exact hrt, hL, fun H4 k4 hx4 => ⟨rfl, ?_⟩⟩
    have s24 : Same H2 H4 := fun c o e => by
      refine k4 c o (ne_of_none e nx) ?_
      rw [upd_ne (ne_of_none e nx), upd_ne (ne_of_none e ndx)]
      exact e
    refine ⟨_, rfl, r, C, G, rfl, SqT.of (s24 _ _ hrt), hLo, fun H5 du s5 ndu hdu => ?_⟩
    refine ⟨by show 2 ≤ sizeLine; decide, fun tp ntp => ?_⟩
    have s6 : Same H5 (upd H5 tp (.tup [.ref x, .ref du])) := same_new ntp
    refine ⟨tp, _, rfl, SqT.of upd_same, rfl, _, _, rfl, _, [], rfl, rfl, ?_⟩
    generalize hH6 : upd H5 tp (.tup [.ref x, .ref du]) = H6 at *
    have s26 : Same H2 H6 := s24.trans (s5.trans s6)
    have hLot : LotAt K Cl H6 x C G := ⟨dx, r, s6 _ _ (s5 _ _ hx4), SqT.of (s26 _ _ hrt)⟩
    have hdu6 := s6 _ _ hdu
    have fT := fine_tab hLo
    have fTT := fine_two fT (by decide)
    -- repr([moved_losses(lot), moved_losses(lot=lot)]) != repr([due, due])
    refine ⟨_, rfl, x, C, G, rfl, hLot, hLo, fun H7 u1 s7 nu1 hu1 => ?_⟩
    refine ⟨_, rfl, x, C, G, rfl, hLot.mono s7, hLo, fun H8 u2 s8 nu2 hu2 => ?_⟩
    refine ⟨by show 2 ≤ sizeLine; decide, fun l1 nl1 => ?_⟩
    have s9 : Same H8 (upd H8 l1 (.lst [.ref u1, .ref u2])) := same_new nl1
    generalize hH9 : upd H8 l1 (.lst [.ref u1, .ref u2]) = H9 at *
    have hl1 : H9 l1 = some (.lst [.ref u1, .ref u2]) := by rw [← hH9]; exact upd_same
    have tabAt : ∀ {H' : Hp} {u : Addr}, H' u = some (.tup ((table G C).map ov)) → Dp K H' (.ref u) (.tuple ((table G C).map od)) := fun h => .tup (SqT.of h) (dp_tab _)
    refine ⟨l1, _, rfl, dp_two hl1 (tabAt (s9 _ _ (s8 _ _ hu1))) (tabAt (s9 _ _ hu2)), fTT.sh, fTT.nd, Nat.le_trans fTT.dp (by decide), fTT.fits (by decide), ?_⟩
    have s69 : Same H6 H9 := s7.trans (s8.trans s9)
    refine ⟨_, rfl, _, rfl, by show 2 ≤ sizeLine; decide, fun l2 nl2 => ?_⟩
    have s10 : Same H9 (upd H9 l2 (.lst [.ref du, .ref du])) := same_new nl2
    generalize hH10 : upd H9 l2 (.lst [.ref du, .ref du]) = H10 at *
    have hl2 : H10 l2 = some (.lst [.ref du, .ref du]) := by rw [← hH10]; exact upd_same
    have hdu10 := s10 _ _ (s69 _ _ hdu6)
    refine ⟨l2, _, rfl, dp_two hl2 (tabAt hdu10) (tabAt hdu10), fTT.sh, fTT.nd, Nat.le_trans fTT.dp (by decide), fTT.fits (by decide), ?_⟩
    refine ⟨rfl, _, rfl, iteNS rfl ?_⟩
    have s610 : Same H6 H10 := s69.trans s10
    generalize hTab : table G C = T at *
    have hTl : T.length = G := by rw [← hTab]; exact table_len hLo.sm.pos C
    -- the greatest loss
    refine ⟨_, rfl, du, rfl, ⟨_, SqT.of hdu10⟩, fun D1 nD => ?_⟩
    refine lc_tup (K := K) (a := du) (xs := T.map ov) (fun i H' => Same H10 H' ∧ H' D1 = some (.lst ((vals (T.take i)).map V.int)))
      ⟨same_new nD, upd_same⟩ (fun i H' _ hP => seqT hP.1 (SqT.of hdu10)) ?_ ?_
    · rintro i y H' hy ⟨sm, hD⟩
      rw [List.getElem?_map] at hy
      cases hi : T[i]? with
      | none =>
        rw [hi] at hy
        cases hy
      | some o =>
        rw [hi] at hy
        cases hy
        refine ⟨rfl, _, rfl, rfl, _, rfl, ?_⟩
        rw [ov_none]
        have hlen : (vals (T.take i)).length ≤ 24 := Nat.le_trans (vals_len _) (by rw [List.length_take]; omega)
        cases o with
        | none =>
          refine iteF ⟨sm, ?_⟩
          rw [vals_take hi, hD]
          simp
        | some n =>
          refine iteT ⟨_, rfl, _, hD, by rw [List.length_map]; exact small (by omega), ?_, ?_⟩
          · intro c o e
            rw [upd_ne (ne_of_none e nD)]
            exact sm _ _ e
          · rw [upd_same, vals_take hi, List.map_append]
            rfl
    rintro H11 ⟨s11, hD⟩
    have e0 : T.take (T.map ov).length = T := by rw [List.length_map, List.take_length]
    rw [e0] at hD
    have hpos : 0 < (vals T).length := by
      obtain ⟨z, hz, _⟩ := table_zero hLo.sm
      rw [hTab] at hz
      have h0 : 0 < T.length := lt_of_some hz
      have hm : some z ∈ T := by
        rw [List.getD_eq_getElem?_getD, List.getElem?_eq_getElem h0] at hz
        have hz' : T[0] = some z := hz
        rw [← hz']
        exact List.getElem_mem h0
      exact List.length_pos_of_mem (List.mem_filterMap.mpr ⟨some z, hm, rfl⟩)
    refine ⟨D1, vals T, rfl, SqL.of hD, hpos, fun m hm hle => ?_⟩
    -- the rests that have it
    have hdu11 := s11 _ _ hdu10
    refine ⟨_, rfl, _, rfl, du, T.map ov, rfl, .inr (SqT.of hdu11), ?_⟩
    refine ⟨(T.length : Nat), by rw [List.length_map] <;> rfl, by omega, by omega, fun D2 nD2 => ?_⟩
    rw [Int.toNat_natCast]
    refine lc_range (lo := 0) (n := T.length) (fun i H' => Same H11 H' ∧ H' D2 = some (.lst (cv (restsN T m i)))) ⟨same_new nD2, upd_same⟩ ?_ ?_
    · rintro i H' hi ⟨sm, hD2⟩
      have ei : (0 : Int) + (i : Int) = ((i : Nat) : Int) := Int.zero_add _
      rw [ei]
      refine ⟨rfl, _, rfl, _, rfl, du, _, _, _, rfl, rfl, seqT sm (SqT.of hdu11), ix_tab hi, _, rfl, scal_ov _ _, _, rfl, ?_⟩
      rw [ov_eq]
      refine ite2 (fun e => ?_) (fun e => ?_)
      · have e' : T.getD i none = some m := of_decide_eq_true e
        have hlen := restsN_len T m i
        refine ⟨_, rfl, _, hD2, by rw [cv_len]; exact small (by omega), ?_, ?_⟩
        · intro c o e2
          rw [upd_ne (ne_of_none e2 nD2)]
          exact sm _ _ e2
        · rw [upd_same, restsN_succ, if_pos e']
          unfold cv
          rw [List.map_append]
          rfl
      · have e' : ¬ T.getD i none = some m := fun z => e (decide_eq_true z)
        refine ⟨sm, ?_⟩
        rw [restsN_succ, if_neg e', List.append_nil]
        exact hD2
    rintro H12 ⟨s12, hD2⟩
    refine ⟨D2, _, rfl, .inl ⟨SqL.of hD2, fun r2 nr2 => ?_⟩⟩
    rw [hTl] at *
    have s13 : Same H12 (upd H12 r2 (.tup (cv (restsN T m G)))) := same_new nr2
    generalize hH13 : upd H12 r2 (.tup (cv (restsN T m G))) = H13 at *
    have hr2 : H13 r2 = some (.tup (cv (restsN T m G))) := by rw [← hH13]; exact upd_same
    refine ⟨by show 2 ≤ sizeLine; decide, fun pr npr => ?_⟩
    have s14 : Same H13 (upd H13 pr (.tup [.int m, .ref r2])) := same_new npr
    generalize hH14 : upd H13 pr (.tup [.int m, .ref r2]) = H14 at *
    have hpr : H14 pr = some (.tup [.int m, .ref r2]) := by rw [← hH14]; exact upd_same
    have s614 : Same H6 H14 := s610.trans (s11.trans (s12.trans (s13.trans s14)))
    -- repr([worst_rests(lot), worst_rests(lot=lot)]) == repr([pair, pair])
    have pairAt : ∀ {H' : Hp} {u v : Addr}, H' u = some (.tup [.int m, .ref v]) → H' v = some (.tup (cv (restsN T m G))) → Dp K H' (.ref u) (.tuple [.int m, .tuple ((restsN T m G).map fun c : Nat => PyData.int (c : Int))]) := fun h h' =>
      .tup (SqT.of h) (.cons (.int m) (.cons (.tup (SqT.of h') (dp_cv _)) .nil))
    have fP : Fine (.tuple [.int m, .tuple ((restsN T m G).map fun c : Nat => PyData.int (c : Int))]) 2 50 := by
      have := fine_pair hLo (m := m) (by rw [hTab]; exact hm)
      rw [hTab] at this
      exact this
    have fPP := fine_two fP (by decide)
    have only : ∀ m', m' ∈ vals T → (∀ y ∈ vals T, y ≤ m') → m' = m := fun m' h1 h2 => by
      have a := hle m' h1
      have c := h2 m hm
      omega
    have lot14 := hLot.mono s614
    refine ⟨_, rfl, x, C, G, rfl, lot14, hLo, fun H15 v1 w1 m1 hm1 hle1 s15 nv1 hw1 hv1 => ?_⟩
    rw [hTab] at hm1 hle1 hw1
    have e1 := only m1 hm1 hle1
    subst e1
    refine ⟨_, rfl, x, C, G, rfl, lot14.mono s15, hLo, fun H16 v2 w2 m2 hm2 hle2 s16 nv2 hw2 hv2 => ?_⟩
    rw [hTab] at hm2 hle2 hw2
    have e2 := only m2 hm2 hle2
    subst e2
    refine ⟨by show 2 ≤ sizeLine; decide, fun l3 nl3 => ?_⟩
    have s17 : Same H16 (upd H16 l3 (.lst [.ref v1, .ref v2])) := same_new nl3
    generalize hH17 : upd H16 l3 (.lst [.ref v1, .ref v2]) = H17 at *
    have hl3 : H17 l3 = some (.lst [.ref v1, .ref v2]) := by rw [← hH17]; exact upd_same
    refine ⟨l3, _, rfl, dp_two hl3 (pairAt (s17 _ _ (s16 _ _ hv1)) (s17 _ _ (s16 _ _ hw1))) (pairAt (s17 _ _ hv2) (s17 _ _ hw2)), fPP.sh, fPP.nd, Nat.le_trans fPP.dp (by decide), fPP.fits (by decide), ?_⟩
    have s1417 : Same H14 H17 := s15.trans (s16.trans s17)
    refine ⟨_, rfl, _, rfl, by show 2 ≤ sizeLine; decide, fun l4 nl4 => ?_⟩
    have s18 : Same H17 (upd H17 l4 (.lst [.ref pr, .ref pr])) := same_new nl4
    generalize hH18 : upd H17 l4 (.lst [.ref pr, .ref pr]) = H18 at *
    have hl4 : H18 l4 = some (.lst [.ref pr, .ref pr]) := by rw [← hH18]; exact upd_same
    have hp18 := s18 _ _ (s1417 _ _ hpr)
    have hr18 := s18 _ _ (s1417 _ _ (s14 _ _ hr2))
    refine ⟨l4, _, rfl, dp_two hl4 (pairAt hp18 hr18) (pairAt hp18 hr18), fPP.sh, fPP.nd, Nat.le_trans fPP.dp (by decide), fPP.fits (by decide), rfl, ?_⟩
    have hk : Keep b H H18 := k02.trans (Keep.of (s26.trans (s614.trans (s1417.trans s18))))
    show Q (.bl (decide (V.str _ = V.str _))) H18
    rw [decide_eq_true rfl]
    exact q H18 hk
end
end Mk

namespace Mk
open PySem PySem.Spec PyProof.Rows L2 Mint
section
variable {P : Program} {w : World} {K : PySem.W.Frag} {mg : Str → Option Value} {base : Heap}
/-! ### law -/
def spLaw (K : PySem.W.Frag) : Sp := fun vs H Q _ => ∃ (a : Addr) (ns : List Int), vs = [.ref a] ∧ SqL K H a (ns.map V.int) ∧ ns.length ≤ 63 ∧ ∀ H', Q (.bl true) H'
theorem scLaw : FnScope ["_law_script", "_law_turn"] ["_law_script"] (defScope sLaw) := ⟨rfl, rfl, rfl, by decide +kernel, rfl, by decide +kernel, by decide +kernel⟩
theorem ok_law {f : Addr} {fd : FuncData} (F : L2.Fun K "law" "law" sLaw f fd) (N : Nm mg) (Bag : C8.Cal P w K mg base 1 "_law_bag" (spBag K) []) (Right : MkG.CalG P w K mg base 6 "_law_right" spRight) : MkG.FnG P w K mg base 7 f fd ["_law_script"] (spLaw K) := by
  refine MkG.fnG F scLaw (fun vs H Q E h => ?_) (fun cdv A outer s0 H vs Q E hG0 hr h => ?_)
  · obtain ⟨a, ns, rfl, _⟩ := h
    rfl
  · obtain ⟨a, ns, rfl, hS, hlen, q⟩ := h
    have hG : (A.deeper (envOfC "law" (defScope sLaw) s0.heap.objs.size f cdv)).guards = some [] := hG0
    refine ⟨_, pss_one (ps_ret (pe_callB (cr_all rfl) (by rfl) N.all (by decide +kernel) (pa_cons
      (pe_lc (own := [("_law_turn", 1)]) (g := gName 1) (tt := tYes) rfl scLaw.nd
        (pi_range1 (by rfl) N.range (pa_cons (pe_callB (call_max2 rfl) (by rfl) N.max (by decide +kernel) (pa_cons pe_int (pa_cons (pe_callB (call_min2 rfl) (by rfl) N.min (by decide +kernel) (pa_cons
          (pe_callB call_len_seq (by rfl) N.len PySem.boot_len (pa_cons (pv 0) pa_nil)) (pa_cons pe_int pa_nil))) pa_nil))) pa_nil))
        (blkOk_by (own := [("_law_turn", 1)]) (N := ["_law_script", "_law_turn"]) (sc := defScope sLaw) (by decide +kernel))
        (fun _ _ _ _ _ => pg_name (i := 1) scLaw.nd rfl (.inl rfl)) (fun _ _ _ _ _ => pts_nil)
        (fun _ _ _ _ _ => MkG.pe_g Right hG hr (by decide) (by rfl) (pa_cons (C8.pe_c Bag hr (by decide) (by rfl) (pa_cons (pv 0) (pa_cons (pv 1) pa_nil))) pa_nil))) pa_nil))), ?_⟩
    refine ⟨_, rfl, a, _, rfl, .inl hS, _, _, rfl, _, _, rfl, ?_⟩
    generalize hz : (if (if (3 : Int) < ((ns.map V.int).length : Int) then (3 : Int) else ((ns.map V.int).length : Int)) > 2 then (if (3 : Int) < ((ns.map V.int).length : Int) then (3 : Int) else ((ns.map V.int).length : Int)) else 2) = z
    have hz2 : 0 ≤ z ∧ z ≤ 3 := by
      rw [← hz]
      split <;> split <;> omega
    refine ⟨z, by rw [← hz], by omega, by omega, fun D nD => ?_⟩
    refine lc_range (lo := 0) (n := z.toNat) (fun i H' => Same H H' ∧ H' D = some (.lst ((List.replicate i true).map V.bl))) ⟨same_new nD, upd_same⟩ ?_ ?_
    · rintro i H' hi ⟨sm, hD⟩
      have ei : (0 : Int) + (i : Int) = ((i : Nat) : Int) := Int.zero_add _
      rw [ei]
      refine ⟨rfl, _, rfl, _, rfl, a, ns, i, rfl, sm.seq hS, by omega, fun H1 r s1 nr hb => ?_⟩
      refine ⟨r, rfl, hb, fun H2 k2 => ?_⟩
      have nDr : D ≠ r := ne_of_none hD nr
      have hD2 := k2 _ _ nDr (s1 _ _ hD)
      refine ⟨_, hD2, by rw [List.length_map, List.length_replicate]; exact small (by omega), fun b o e => ?_, ?_⟩
      · rw [upd_ne (ne_of_none e nD)]
        exact k2 _ _ (ne_of_none (sm _ _ e) nr) (s1 _ _ (sm _ _ e))
      · rw [upd_same, List.replicate_succ', List.map_append]
        rfl
    · rintro H1 ⟨sm, hD⟩
      refine ⟨D, List.replicate z.toNat true, rfl, SqL.of hD, ?_⟩
      have e : (List.replicate z.toNat true).all id = true := by
        rw [List.all_eq_true]
        intro x hx
        rw [List.eq_of_mem_replicate hx]
        rfl
      rw [e]
      exact q H1
end
end Mk

namespace Mk
open PySem PySem.Spec PyProof.Rows L2 Mint
theorem scGet : FnScope ["self"] ["self"] (defScope sCoins) := ⟨rfl, rfl, rfl, by decide +kernel, rfl, by decide +kernel, by decide +kernel⟩
theorem all_mk {l : PySem.W.OpenLaw} {w : World} {K : PySem.W.Frag} {h : Heap} {mg : Str → Option Value} {fa C pr : Addr} (X : K.In h) (G : h.Ns mainGlobals mg) (hfa : mg "law" = some (.ref fa)) {rst : List Value} {t60 t15 : Tok}
    {f0 : Addr} {od0 an0 : Option Addr} {sl0 : Array (Option Value)} {oc0 kV0 dc0 pm0 cd0 ct0 : Value}
    {f1 : Addr} {od1 an1 : Option Addr} {sl1 : Array (Option Value)} {oc1 kV1 dc1 pm1 cd1 ct1 : Value}
    {f2 : Addr} {od2 an2 : Option Addr} {sl2 : Array (Option Value)} {oc2 kV2 dc2 pm2 cd2 ct2 : Value}
    {f3 : Addr} {od3 an3 : Option Addr} {sl3 : Array (Option Value)} {oc3 kV3 dc3 pm3 cd3 ct3 : Value}
    {f4 : Addr} {od4 an4 : Option Addr} {sl4 : Array (Option Value)} {oc4 kV4 dc4 pm4 cd4 ct4 : Value}
    {f5 : Addr} {od5 an5 : Option Addr} {sl5 : Array (Option Value)} {oc5 kV5 dc5 pm5 cd5 ct5 : Value}
    {f6 : Addr} {od6 an6 : Option Addr} {sl6 : Array (Option Value)} {oc6 kV6 dc6 pm6 cd6 ct6 : Value}
    {f7 : Addr} {od7 an7 : Option Addr} {sl7 : Array (Option Value)} {oc7 kV7 dc7 pm7 cd7 ct7 : Value}
    {f8 : Addr} {od8 an8 : Option Addr} {sl8 : Array (Option Value)} {oc8 kV8 dc8 pm8 cd8 ct8 : Value}
    {f9 : Addr} {od9 an9 : Option Addr} {sl9 : Array (Option Value)} {oc9 kV9 dc9 pm9 cd9 ct9 : Value}
    {f10 : Addr} {od10 an10 : Option Addr} {sl10 : Array (Option Value)} {oc10 kV10 dc10 pm10 cd10 ct10 : Value}
    {f11 : Addr} {od11 an11 : Option Addr} {sl11 : Array (Option Value)} {oc11 kV11 dc11 pm11 cd11 ct11 : Value}
    {f12 : Addr} {od12 an12 : Option Addr} {sl12 : Array (Option Value)} {oc12 kV12 dc12 pm12 cd12 ct12 : Value}
    {f13 : Addr} {od13 an13 : Option Addr} {sl13 : Array (Option Value)} {oc13 kV13 dc13 pm13 cd13 ct13 : Value}
    {f14 : Addr} {od14 an14 : Option Addr} {sl14 : Array (Option Value)} {oc14 kV14 dc14 pm14 cd14 ct14 : Value}
    {f15 : Addr} {od15 an15 : Option Addr} {sl15 : Array (Option Value)} {oc15 kV15 dc15 pm15 cd15 ct15 : Value}
    {f16 : Addr} {od16 an16 : Option Addr} {sl16 : Array (Option Value)} {oc16 kV16 dc16 pm16 cd16 ct16 : Value}
    {f17 : Addr} {od17 an17 : Option Addr} {sl17 : Array (Option Value)} {oc17 kV17 dc17 pm17 cd17 ct17 : Value}
    {f18 : Addr} {od18 an18 : Option Addr} {sl18 : Array (Option Value)} {oc18 kV18 dc18 pm18 cd18 ct18 : Value}
    {f19 : Addr} {od19 an19 : Option Addr} {sl19 : Array (Option Value)} {oc19 kV19 dc19 pm19 cd19 ct19 : Value}
    (a0 : PySem.W.nsIn K mainGlobals "is_integer" = some (some (.ref f0)))
    (l0 : K.lookup f0 = some ⟨oc0, od0, .func (PySem.W.fnOf "is_integer" "is_integer" (defArgs sIsInt) (defBody sIsInt) (defScope sIsInt) .none kV0 dc0 pm0 an0 cd0 ct0), sl0⟩) (c0 : PySem.W.codeIn K cd0 "is_integer" = true) (k0 : PySem.W.keepIn K (.ref f0) = true)
    (a1 : PySem.W.nsIn K mainGlobals "is_within_bounds" = some (some (.ref f1)))
    (l1 : K.lookup f1 = some ⟨oc1, od1, .func (PySem.W.fnOf "is_within_bounds" "is_within_bounds" (defArgs sWithin) (defBody sWithin) (defScope sWithin) .none kV1 dc1 pm1 an1 cd1 ct1), sl1⟩) (c1 : PySem.W.codeIn K cd1 "is_within_bounds" = true) (k1 : PySem.W.keepIn K (.ref f1) = true)
    (a2 : PySem.W.nsIn K mainGlobals "common_divisor" = some (some (.ref f2)))
    (l2 : K.lookup f2 = some ⟨oc2, od2, .func (PySem.W.fnOf "common_divisor" "common_divisor" (defArgs sDiv) (defBody sDiv) (defScope sDiv) .none kV2 dc2 pm2 an2 cd2 ct2), sl2⟩) (c2 : PySem.W.codeIn K cd2 "common_divisor" = true) (k2 : PySem.W.keepIn K (.ref f2) = true)
    (a3 : PySem.W.nsIn K mainGlobals "first_wrong" = some (some (.ref f3)))
    (l3 : K.lookup f3 = some ⟨oc3, od3, .func (PySem.W.fnOf "first_wrong" "first_wrong" (defArgs sWrong) (defBody sWrong) (defScope sWrong) .none kV3 dc3 pm3 an3 cd3 ct3), sl3⟩) (c3 : PySem.W.codeIn K cd3 "first_wrong" = true) (k3 : PySem.W.keepIn K (.ref f3) = true)
    (a4 : PySem.W.nsIn K mainGlobals "check_lot" = some (some (.ref f4)))
    (l4 : K.lookup f4 = some ⟨oc4, od4, .func (PySem.W.fnOf "check_lot" "check_lot" (defArgs sCheck) (defBody sCheck) (defScope sCheck) .none kV4 dc4 pm4 an4 cd4 ct4), sl4⟩) (c4 : PySem.W.codeIn K cd4 "check_lot" = true) (k4 : PySem.W.keepIn K (.ref f4) = true)
    (a5 : PySem.W.nsIn K mainGlobals "eased" = some (some (.ref f5)))
    (l5 : K.lookup f5 = some ⟨oc5, od5, .func (PySem.W.fnOf "eased" "eased" (defArgs sEased) (defBody sEased) (defScope sEased) .none kV5 dc5 pm5 an5 cd5 ct5), sl5⟩) (c5 : PySem.W.codeIn K cd5 "eased" = true) (k5 : PySem.W.keepIn K (.ref f5) = true)
    (a6 : PySem.W.nsIn K mainGlobals "least_costs" = some (some (.ref f6)))
    (l6 : K.lookup f6 = some ⟨oc6, od6, .func (PySem.W.fnOf "least_costs" "least_costs" (defArgs sCosts) (defBody sCosts) (defScope sCosts) .none kV6 dc6 pm6 an6 cd6 ct6), sl6⟩) (c6 : PySem.W.codeIn K cd6 "least_costs" = true) (k6 : PySem.W.keepIn K (.ref f6) = true)
    (a7 : PySem.W.nsIn K mainGlobals "least_moves" = some (some (.ref f7)))
    (l7 : K.lookup f7 = some ⟨oc7, od7, .func (PySem.W.fnOf "least_moves" "least_moves" (defArgs sMoves) (defBody sMoves) (defScope sMoves) .none kV7 dc7 pm7 an7 cd7 ct7), sl7⟩) (c7 : PySem.W.codeIn K cd7 "least_moves" = true) (k7 : PySem.W.keepIn K (.ref f7) = true)
    (a8 : PySem.W.nsIn K mainGlobals "moved_losses" = some (some (.ref f8)))
    (l8 : K.lookup f8 = some ⟨oc8, od8, .func (PySem.W.fnOf "moved_losses" "moved_losses" (defArgs sLosses) (defBody sLosses) (defScope sLosses) .none kV8 dc8 pm8 an8 cd8 ct8), sl8⟩) (c8 : PySem.W.codeIn K cd8 "moved_losses" = true) (k8 : PySem.W.keepIn K (.ref f8) = true)
    (a9 : PySem.W.nsIn K mainGlobals "worst_rests" = some (some (.ref f9)))
    (l9 : K.lookup f9 = some ⟨oc9, od9, .func (PySem.W.fnOf "worst_rests" "worst_rests" (defArgs sWorst) (defBody sWorst) (defScope sWorst) .none kV9 dc9 pm9 an9 cd9 ct9), sl9⟩) (c9 : PySem.W.codeIn K cd9 "worst_rests" = true) (k9 : PySem.W.keepIn K (.ref f9) = true)
    (a10 : PySem.W.nsIn K mainGlobals "_law_bag" = some (some (.ref f10)))
    (l10 : K.lookup f10 = some ⟨oc10, od10, .func (PySem.W.fnOf "_law_bag" "_law_bag" (defArgs sBag) (defBody sBag) (defScope sBag) .none kV10 dc10 pm10 an10 cd10 ct10), sl10⟩) (c10 : PySem.W.codeIn K cd10 "_law_bag" = true) (k10 : PySem.W.keepIn K (.ref f10) = true)
    (a11 : PySem.W.nsIn K mainGlobals "_law_grab" = some (some (.ref f11)))
    (l11 : K.lookup f11 = some ⟨oc11, od11, .func (PySem.W.fnOf "_law_grab" "_law_grab" (defArgs sGrab) (defBody sGrab) (defScope sGrab) .none kV11 dc11 pm11 an11 cd11 ct11), sl11⟩) (c11 : PySem.W.codeIn K cd11 "_law_grab" = true) (k11 : PySem.W.keepIn K (.ref f11) = true)
    (a12 : PySem.W.nsIn K mainGlobals "_law_some" = some (some (.ref f12)))
    (l12 : K.lookup f12 = some ⟨oc12, od12, .func (PySem.W.fnOf "_law_some" "_law_some" (defArgs sSome) (defBody sSome) (defScope sSome) .none kV12 dc12 pm12 an12 cd12 ct12), sl12⟩) (c12 : PySem.W.codeIn K cd12 "_law_some" = true) (k12 : PySem.W.keepIn K (.ref f12) = true)
    (a13 : PySem.W.nsIn K mainGlobals "_law_coins" = some (some (.ref f13)))
    (l13 : K.lookup f13 = some ⟨oc13, od13, .func (PySem.W.fnOf "_law_coins" "_law_coins" (defArgs sLCoins) (defBody sLCoins) (defScope sLCoins) .none kV13 dc13 pm13 an13 cd13 ct13), sl13⟩) (c13 : PySem.W.codeIn K cd13 "_law_coins" = true) (k13 : PySem.W.keepIn K (.ref f13) = true)
    (a14 : PySem.W.nsIn K mainGlobals "_law_moves" = some (some (.ref f14)))
    (l14 : K.lookup f14 = some ⟨oc14, od14, .func (PySem.W.fnOf "_law_moves" "_law_moves" (defArgs sLMoves) (defBody sLMoves) (defScope sLMoves) .none kV14 dc14 pm14 an14 cd14 ct14), sl14⟩) (c14 : PySem.W.codeIn K cd14 "_law_moves" = true) (k14 : PySem.W.keepIn K (.ref f14) = true)
    (a15 : PySem.W.nsIn K mainGlobals "_law_due" = some (some (.ref f15)))
    (l15 : K.lookup f15 = some ⟨oc15, od15, .func (PySem.W.fnOf "_law_due" "_law_due" (defArgs sDue) (defBody sDue) (defScope sDue) .none kV15 dc15 pm15 an15 cd15 ct15), sl15⟩) (c15 : PySem.W.codeIn K cd15 "_law_due" = true) (k15 : PySem.W.keepIn K (.ref f15) = true)
    (a16 : PySem.W.nsIn K mainGlobals "_law_right" = some (some (.ref f16)))
    (l16 : K.lookup f16 = some ⟨oc16, od16, .func (PySem.W.fnOf "_law_right" "_law_right" (defArgs sRight) (defBody sRight) (defScope sRight) .none kV16 dc16 pm16 an16 cd16 ct16), sl16⟩) (c16 : PySem.W.codeIn K cd16 "_law_right" = true) (k16 : PySem.W.keepIn K (.ref f16) = true)
    (a17 : PySem.W.nsIn K mainGlobals "law" = some (some (.ref f17)))
    (l17 : K.lookup f17 = some ⟨oc17, od17, .func (PySem.W.fnOf "law" "law" (defArgs sLaw) (defBody sLaw) (defScope sLaw) .none kV17 dc17 pm17 an17 cd17 ct17), sl17⟩) (c17 : PySem.W.codeIn K cd17 "law" = true) (k17 : PySem.W.keepIn K (.ref f17) = true)
    (a18 : PySem.W.findIn K (.ref C) "__init__" = some (some (.ref f18))) (i18 : PySem.W.isFn K (.ref f18) = true)
    (l18 : K.lookup f18 = some ⟨oc18, od18, .func (PySem.W.fnOf "__init__" "Lot.__init__" (defArgs sInit) (defBody sInit) (defScope sInit) .none kV18 dc18 pm18 an18 cd18 ct18), sl18⟩) (c18 : PySem.W.codeIn K cd18 "Lot.__init__" = true) (k18 : PySem.W.keepIn K (.ref f18) = true)
    (p1 : PySem.W.findIn K (.ref C) "coins" = some (some (.ref pr))) (p2 : PySem.W.specialIn K (.ref pr) "__get__" = some (some (.builtin "property.__get__"))) (p3 : PySem.W.takesIn K (.ref pr) = some true) (p4 : PySem.W.recIn K pr "property" = some (.ref f19 :: rst))
    (l19 : K.lookup f19 = some ⟨oc19, od19, .func (PySem.W.fnOf "coins" "Lot.coins" (defArgs sCoins) (defBody sCoins) (defScope sCoins) .none kV19 dc19 pm19 an19 cd19 ct19), sl19⟩) (c19 : PySem.W.codeIn K cd19 "Lot.coins" = true) (k19 : PySem.W.keepIn K (.ref f19) = true)
    (aC : PySem.W.nsIn K mainGlobals "Lot" = some (some (.ref C)))
    (pg : PySem.W.plainGet K C Str.empty = true) (hd : PySem.W.hasDictIn K C = true) (po : PySem.W.plainOver K C = true) (sa : PySem.W.findIn K (.ref C) "__setattr__" = some (some (.builtin "object.__setattr__"))) (mk : PySem.W.makesIn K C = true) (kc : PySem.W.keepIn K (.ref C) = true)
    (nk : PySem.W.findIn K (.ref C) "kinds" = some none)
    (q1 : PySem.W.findIn K (.ref C) "__class__" = some (some (.builtin "object.__class__"))) (q2 : PySem.W.specialIn K (.builtin "object.__class__") "__get__" = some (some (.builtin "getset_descriptor.__get__"))) (q3 : PySem.W.takesIn K (.builtin "object.__class__") = some true) (q4 : PySem.W.mroIn K C (.type "object") = some true)
    (m60 : PySem.W.nsIn K mainGlobals "MOST_COIN" = some (some (.int 60 t60))) (m15 : PySem.W.nsIn K mainGlobals "MOST_COINS" = some (some (.int 15 t15)))
    (z_isinstance : PySem.W.nsIn K mainGlobals "isinstance" = some none)
    (z_int : PySem.W.nsIn K mainGlobals "int" = some none)
    (z_bool : PySem.W.nsIn K mainGlobals "bool" = some none)
    (z_tuple : PySem.W.nsIn K mainGlobals "tuple" = some none)
    (z_len : PySem.W.nsIn K mainGlobals "len" = some none)
    (z_range : PySem.W.nsIn K mainGlobals "range" = some none)
    (z_enumerate : PySem.W.nsIn K mainGlobals "enumerate" = some none)
    (z_max : PySem.W.nsIn K mainGlobals "max" = some none)
    (z_min : PySem.W.nsIn K mainGlobals "min" = some none)
    (z_abs : PySem.W.nsIn K mainGlobals "abs" = some none)
    (z_divmod : PySem.W.nsIn K mainGlobals "divmod" = some none)
    (z_sorted : PySem.W.nsIn K mainGlobals "sorted" = some none)
    (z_set : PySem.W.nsIn K mainGlobals "set" = some none)
    (z_repr : PySem.W.nsIn K mainGlobals "repr" = some none)
    (z_all : PySem.W.nsIn K mainGlobals "all" = some none)
    : ∃ fd : FuncData, (∀ (s : Shared) (v : Value), BindsTo s fd ⟨[v], []⟩ [("_law_script", v)]) ∧ ∀ base : Heap, K.In base → base.Ns mainGlobals mg → MkG.FnG l.prog w K mg base 7 fa fd ["_law_script"] (spLaw K) := by
  have e := hfa.symm.trans (PySem.W.mg_of X G a17)
  cases e
  have N : Nm mg := ⟨PySem.W.mg_none_of X G z_isinstance, PySem.W.mg_none_of X G z_int, PySem.W.mg_none_of X G z_bool, PySem.W.mg_none_of X G z_tuple, PySem.W.mg_none_of X G z_len, PySem.W.mg_none_of X G z_range, PySem.W.mg_none_of X G z_enumerate, PySem.W.mg_none_of X G z_max, PySem.W.mg_none_of X G z_min, PySem.W.mg_none_of X G z_abs, PySem.W.mg_none_of X G z_divmod, PySem.W.mg_none_of X G z_sorted, PySem.W.mg_none_of X G z_set, PySem.W.mg_none_of X G z_repr, PySem.W.mg_none_of X G z_all, ⟨t60, PySem.W.mg_of X G m60⟩, ⟨t15, PySem.W.mg_of X G m15⟩⟩
  have cl : Cls K C := ⟨pg, hd, po, sa⟩
  have hC : mg "Lot" = some (.ref C) := PySem.W.mg_of X G aC
  have q5 : PySem.W.kitOne K (.ref C) (.ref C) = some true := if_pos (beq_iff_eq.mpr rfl)
  have InC : C8.InsC K C := ⟨cl, q1, q2, q3, q4, q5⟩
  have F0 := L2.fun_mk (st := sIsInt) l0 c0 k0
  have b0 := F0.binds (ps := ["value"]) fun _ _ _ _ _ _ us hl => match us, hl with | [_], _ => rfl
  have g0 : mg "is_integer" = some (.ref f0) := PySem.W.mg_of X G a0
  have F1 := L2.fun_mk (st := sWithin) l1 c1 k1
  have b1 := F1.binds (ps := ["value", "least", "most"]) fun _ _ _ _ _ _ us hl => match us, hl with | [_, _, _], _ => rfl
  have g1 : mg "is_within_bounds" = some (.ref f1) := PySem.W.mg_of X G a1
  have F2 := L2.fun_mk (st := sDiv) l2 c2 k2
  have b2 := F2.binds (ps := ["one", "other"]) fun _ _ _ _ _ _ us hl => match us, hl with | [_, _], _ => rfl
  have g2 : mg "common_divisor" = some (.ref f2) := PySem.W.mg_of X G a2
  have F3 := L2.fun_mk (st := sWrong) l3 c3 k3
  have b3 := F3.binds (ps := ["value"]) fun _ _ _ _ _ _ us hl => match us, hl with | [_], _ => rfl
  have g3 : mg "first_wrong" = some (.ref f3) := PySem.W.mg_of X G a3
  have F4 := L2.fun_mk (st := sCheck) l4 c4 k4
  have b4 := F4.binds (ps := ["value"]) fun _ _ _ _ _ _ us hl => match us, hl with | [_], _ => rfl
  have g4 : mg "check_lot" = some (.ref f4) := PySem.W.mg_of X G a4
  have F5 := L2.fun_mk (st := sEased) l5 c5 k5
  have b5 := F5.binds (ps := ["costs", "step", "cost"]) fun _ _ _ _ _ _ us hl => match us, hl with | [_, _, _], _ => rfl
  have g5 : mg "eased" = some (.ref f5) := PySem.W.mg_of X G a5
  have F6 := L2.fun_mk (st := sCosts) l6 c6 k6
  have b6 := F6.binds (ps := ["size", "steps"]) fun _ _ _ _ _ _ us hl => match us, hl with | [_, _], _ => rfl
  have g6 : mg "least_costs" = some (.ref f6) := PySem.W.mg_of X G a6
  have F7 := L2.fun_mk (st := sMoves) l7 c7 k7
  have b7 := F7.binds (ps := ["coins"]) fun _ _ _ _ _ _ us hl => match us, hl with | [_], _ => rfl
  have g7 : mg "least_moves" = some (.ref f7) := PySem.W.mg_of X G a7
  have F8 := L2.fun_mk (st := sLosses) l8 c8 k8
  have b8 := F8.binds (ps := ["lot"]) fun _ _ _ _ _ _ us hl => match us, hl with | [_], _ => rfl
  have g8 : mg "moved_losses" = some (.ref f8) := PySem.W.mg_of X G a8
  have F9 := L2.fun_mk (st := sWorst) l9 c9 k9
  have b9 := F9.binds (ps := ["lot"]) fun _ _ _ _ _ _ us hl => match us, hl with | [_], _ => rfl
  have g9 : mg "worst_rests" = some (.ref f9) := PySem.W.mg_of X G a9
  have F10 := L2.fun_mk (st := sBag) l10 c10 k10
  have b10 := F10.binds (ps := ["_law_script", "_law_turn"]) fun _ _ _ _ _ _ us hl => match us, hl with | [_, _], _ => rfl
  have g10 : mg "_law_bag" = some (.ref f10) := PySem.W.mg_of X G a10
  have F11 := L2.fun_mk (st := sGrab) l11 c11 k11
  have b11 := F11.binds (ps := ["_law_bag_here", "_law_size"]) fun _ _ _ _ _ _ us hl => match us, hl with | [_, _], _ => rfl
  have g11 : mg "_law_grab" = some (.ref f11) := PySem.W.mg_of X G a11
  have F12 := L2.fun_mk (st := sSome) l12 c12 k12
  have b12 := F12.binds (ps := ["_law_bag_here", "_law_menu"]) fun _ _ _ _ _ _ us hl => match us, hl with | [_, _], _ => rfl
  have g12 : mg "_law_some" = some (.ref f12) := PySem.W.mg_of X G a12
  have F13 := L2.fun_mk (st := sLCoins) l13 c13 k13
  have b13 := F13.binds (ps := ["_law_bag_here", "_law_many", "_law_top"]) fun _ _ _ _ _ _ us hl => match us, hl with | [_, _, _], _ => rfl
  have g13 : mg "_law_coins" = some (.ref f13) := PySem.W.mg_of X G a13
  have F14 := L2.fun_mk (st := sLMoves) l14 c14 k14
  have b14 := F14.binds (ps := ["_law_coins_here", "_law_top"]) fun _ _ _ _ _ _ us hl => match us, hl with | [_, _], _ => rfl
  have g14 : mg "_law_moves" = some (.ref f14) := PySem.W.mg_of X G a14
  have F15 := L2.fun_mk (st := sDue) l15 c15 k15
  have b15 := F15.binds (ps := ["_law_coins_here"]) fun _ _ _ _ _ _ us hl => match us, hl with | [_], _ => rfl
  have g15 : mg "_law_due" = some (.ref f15) := PySem.W.mg_of X G a15
  have F16 := L2.fun_mk (st := sRight) l16 c16 k16
  have b16 := F16.binds (ps := ["_law_bag_here"]) fun _ _ _ _ _ _ us hl => match us, hl with | [_], _ => rfl
  have g16 : mg "_law_right" = some (.ref f16) := PySem.W.mg_of X G a16
  have F17 := L2.fun_mk (st := sLaw) l17 c17 k17
  have F18 := L2.fun_mk (st := sInit) l18 c18 k18
  have b18 := F18.binds (ps := ["self", "coins"]) fun _ _ _ _ _ _ us hl => match us, hl with | [_, _], _ => rfl
  have F19 := L2.fun_mk (st := sCoins) l19 c19 k19
  have b19 := F19.binds (ps := ["self"]) fun _ _ _ _ _ _ us hl => match us, hl with | [_], _ => rfl
  refine ⟨PySem.W.fnOf "law" "law" (defArgs sLaw) (defBody sLaw) (defScope sLaw) .none kV17 dc17 pm17 an17 cd17 ct17, fun s v => .of_eq rfl, fun base _ _ => ?_⟩
  have Cisint : C8.Cal l.prog w K mg base 1 "is_integer" spIsInt [] := cal F0 (ok_isint F0 N) g0 b0
  have Cwithin : C8.Cal l.prog w K mg base 2 "is_within_bounds" spWithin [] := cal F1 (ok_within F1 Cisint) g1 b1
  have Cdiv : C8.Cal l.prog w K mg base 1 "common_divisor" spDiv [] := cal F2 (ok_div F2 N) g2 b2
  have Cwrong : C8.Cal l.prog w K mg base 3 "first_wrong" (spWrong K) [] := cal F3 (ok_wrong F3 N Cwithin) g3 b3
  have Ccheck : C8.Cal l.prog w K mg base 1 "check_lot" (spCheck C) [] := cal F4 (ok_check F4 N hC InC) g4 b4
  have Ceased : C8.Cal l.prog w K mg base 2 "eased" spEased [] := cal F5 (ok_eased F5 N Cdiv) g5 b5
  have Ccosts : C8.Cal l.prog w K mg base 3 "least_costs" (spCosts K) [] := cal F6 (ok_costs F6 N Ceased) g6 b6
  have Cmoves : C8.Cal l.prog w K mg base 4 "least_moves" (spMoves K) [] := cal F7 (ok_moves F7 Ccosts) g7 b7
  have Co : CoinsP l.prog w K mg base C := ⟨cl, pr, f19, _, ["self"], ⟨p1, p2, p3, rst, p4⟩, fn_getter (k := 0) (N := ["self"]) l19 c19 scGet rfl rfl cl nk, b19⟩
  have Glosses := ok_losses (P := l.prog) (w := w) (base := base) F8 N Ccheck Cmoves Co
  have Closses : C8.Cal l.prog w K mg base 5 "moved_losses" (spLosses K C) [] := cal F8 Glosses g8 b8
  have Klosses : MkG.CalK l.prog w K mg base 5 "moved_losses" ["lot"] (spLosses K C) := ⟨f8, _, ["lot"], Glosses, g8, k8, fun s ws _ hl => match ws, hl with | [_], _ => .of_eq rfl⟩
  have Gworst := ok_worst (P := l.prog) (w := w) (base := base) F9 N Ccheck Cmoves Co
  have Cworst : C8.Cal l.prog w K mg base 5 "worst_rests" (spWorst K C) [] := cal F9 Gworst g9 b9
  have Kworst : MkG.CalK l.prog w K mg base 5 "worst_rests" ["lot"] (spWorst K C) := ⟨f9, _, ["lot"], Gworst, g9, k9, fun s ws _ hl => match ws, hl with | [_], _ => .of_eq rfl⟩
  have Mak : C8.Mak l.prog w K mg base 4 "Lot" C (spInit C) [] := ⟨f18, _, ["self", "coins"], [], ⟨mk, a18, i18, kc⟩, ok_init F18 N cl nk Cwrong, hC, b18, .nil⟩
  have Cbag : C8.Cal l.prog w K mg base 1 "_law_bag" (spBag K) [] := cal F10 (ok_bag F10 N) g10 b10
  have Cgrab : C8.Cal l.prog w K mg base 1 "_law_grab" spGrab [] := cal F11 (ok_grab F11 N) g11 b11
  have Csome : C8.Cal l.prog w K mg base 2 "_law_some" spSome [] := cal F12 (ok_some F12 N Cgrab) g12 b12
  have Clcoins : C8.Cal l.prog w K mg base 3 "_law_coins" spLCoins [] := cal F13 (ok_lcoins F13 N Cgrab Csome) g13 b13
  have Clmoves : C8.Cal l.prog w K mg base 1 "_law_moves" (spLMoves K) [] := cal F14 (ok_lmoves F14 N) g14 b14
  have Cdue : C8.Cal l.prog w K mg base 2 "_law_due" (spDue K) [] := cal F15 (ok_due F15 N Clmoves) g15 b15
  have Cright : MkG.CalG l.prog w K mg base 6 "_law_right" spRight := ⟨f16, _, ["_law_bag_here"], ok_right F16 N Clcoins Csome Mak Cdue Closses Klosses Cworst Kworst, g16, k16, b16⟩
  exact ok_law F17 N Cbag Cright
end Mk

open PySem PySem.W PyProof.Rows in
set_option maxRecDepth 100000 in
set_option maxHeartbeats 0 in
theorem PySem.Challenge.cw_mintlots_k34_whole_losses_of_deals_and_w_holds : PySem.Challenge.rw_mintlots_k34_whole_losses_of_deals_and_w.Holds := by
  w_on; o_law; k_head; (case hw => w_witness2)
  k_fill
  refine MkG.walk_g (l := PySem.Challenge.rw_mintlots_k34_whole_losses_of_deals_and_w) (n := 63) (k := 7) (x := "_law_script") (sp := fun w => Mk.spLaw _) rfl (by decide) rfl ⟨rfl, by decide, by decide⟩ (fun w h Y => PySem.W.kIn_of Y) ?F (fun _ _ a ns hl _ hS => ⟨a, ns, rfl, hS, hl, fun _ => rfl⟩)
  case F =>
    intro w mg fa h KX G hmg
    refine' Mk.all_mk KX G hmg ?a0 ?l0 ?c0 ?k0 ?a1 ?l1 ?c1 ?k1 ?a2 ?l2 ?c2 ?k2 ?a3 ?l3 ?c3 ?k3 ?a4 ?l4 ?c4 ?k4 ?a5 ?l5 ?c5 ?k5 ?a6 ?l6 ?c6 ?k6 ?a7 ?l7 ?c7 ?k7 ?a8 ?l8 ?c8 ?k8 ?a9 ?l9 ?c9 ?k9 ?a10 ?l10 ?c10 ?k10 ?a11 ?l11 ?c11 ?k11 ?a12 ?l12 ?c12 ?k12 ?a13 ?l13 ?c13 ?k13 ?a14 ?l14 ?c14 ?k14 ?a15 ?l15 ?c15 ?k15 ?a16 ?l16 ?c16 ?k16 ?a17 ?l17 ?c17 ?k17 ?a18 ?i18 ?l18 ?c18 ?k18 ?p1 ?p2 ?p3 ?p4 ?l19 ?c19 ?k19 ?aC ?pg ?hd ?po ?sa ?mk ?kc ?nk ?q1 ?q2 ?q3 ?q4 ?m60 ?m15 ?z_isinstance ?z_int ?z_bool ?z_tuple ?z_len ?z_range ?z_enumerate ?z_max ?z_min ?z_abs ?z_divmod ?z_sorted ?z_set ?z_repr ?z_all
    (case aC => k_is)
    (case a0 => k_is)
    (case l0 => k_is)
    (case c0 => k_is)
    (case k0 => k_is)
    (case a1 => k_is)
    (case l1 => k_is)
    (case c1 => k_is)
    (case k1 => k_is)
    (case a2 => k_is)
    (case l2 => k_is)
    (case c2 => k_is)
    (case k2 => k_is)
    (case a3 => k_is)
    (case l3 => k_is)
    (case c3 => k_is)
    (case k3 => k_is)
    (case a4 => k_is)
    (case l4 => k_is)
    (case c4 => k_is)
    (case k4 => k_is)
    (case a5 => k_is)
    (case l5 => k_is)
    (case c5 => k_is)
    (case k5 => k_is)
    (case a6 => k_is)
    (case l6 => k_is)
    (case c6 => k_is)
    (case k6 => k_is)
    (case a7 => k_is)
    (case l7 => k_is)
    (case c7 => k_is)
    (case k7 => k_is)
    (case a8 => k_is)
    (case l8 => k_is)
    (case c8 => k_is)
    (case k8 => k_is)
    (case a9 => k_is)
    (case l9 => k_is)
    (case c9 => k_is)
    (case k9 => k_is)
    (case a10 => k_is)
    (case l10 => k_is)
    (case c10 => k_is)
    (case k10 => k_is)
    (case a11 => k_is)
    (case l11 => k_is)
    (case c11 => k_is)
    (case k11 => k_is)
    (case a12 => k_is)
    (case l12 => k_is)
    (case c12 => k_is)
    (case k12 => k_is)
    (case a13 => k_is)
    (case l13 => k_is)
    (case c13 => k_is)
    (case k13 => k_is)
    (case a14 => k_is)
    (case l14 => k_is)
    (case c14 => k_is)
    (case k14 => k_is)
    (case a15 => k_is)
    (case l15 => k_is)
    (case c15 => k_is)
    (case k15 => k_is)
    (case a16 => k_is)
    (case l16 => k_is)
    (case c16 => k_is)
    (case k16 => k_is)
    (case a17 => k_is)
    (case l17 => k_is)
    (case c17 => k_is)
    (case k17 => k_is)
    (case a18 => k_is)
    (case i18 => k_is)
    (case l18 => k_is)
    (case c18 => k_is)
    (case k18 => k_is)
    (case p1 => k_is)
    (case p2 => k_is)
    (case p3 => k_is)
    (case p4 => k_is)
    (case l19 => k_is)
    (case c19 => k_is)
    (case k19 => k_is)
    (case pg => k_is)
    (case hd => k_is)
    (case po => k_is)
    (case sa => k_is)
    (case mk => k_is)
    (case kc => k_is)
    (case nk => k_is)
    (case q1 => k_is)
    (case q2 => k_is)
    (case q3 => k_is)
    (case q4 => k_is)
    (case m60 => k_is)
    (case m15 => k_is)
    (case z_isinstance => k_is)
    (case z_int => k_is)
    (case z_bool => k_is)
    (case z_tuple => k_is)
    (case z_len => k_is)
    (case z_range => k_is)
    (case z_enumerate => k_is)
    (case z_max => k_is)
    (case z_min => k_is)
    (case z_abs => k_is)
    (case z_divmod => k_is)
    (case z_sorted => k_is)
    (case z_set => k_is)
    (case z_repr => k_is)
    (case z_all => k_is)
