/- A part of the proof: SpB. It holds for whatever its statements name; no condition beyond theirs. -/
import Derived.Test.YtllbpnmhoblkgaaDoorAmI
import Derived.Test.YtllbpnmhoblkgaaDoorAmE
namespace Mt

/-! ### counting -/
def cnt : Nat → (Nat → Bool) → Nat
  | 0, _ => 0
  | n + 1, p => cnt n p + (if p n then 1 else 0)

theorem cnt_congr {n : Nat} {p q : Nat → Bool} (h : ∀ i, i < n → p i = q i) : cnt n p = cnt n q := by
  induction n with
  | zero => rfl
  | succ n ih => simp only [cnt]; rw [ih fun i hi => h i (by omega), h n (by omega)]
theorem cnt_split (n : Nat) (p q : Nat → Bool) : cnt n p = cnt n (fun i => p i && q i) + cnt n (fun i => p i && !q i) := by
  induction n with
  | zero => rfl
  | succ n ih =>
    simp only [cnt]
    rw [ih]
    by_cases hp : p n = true <;> by_cases hq : q n = true <;> simp [hp, hq] <;> omega
theorem cnt_le (n : Nat) (p : Nat → Bool) : cnt n p ≤ n := by
  induction n with
  | zero => simp [cnt]
  | succ n ih => simp only [cnt]; split <;> omega
theorem cnt_true (n : Nat) : cnt n (fun _ => true) = n := by
  induction n with
  | zero => rfl
  | succ n ih => simp only [cnt, ih]; simp
theorem cnt_mono {n : Nat} {p q : Nat → Bool} (h : ∀ i, i < n → p i = true → q i = true) : cnt n p ≤ cnt n q := by
  induction n with
  | zero => simp [cnt]
  | succ n ih =>
    simp only [cnt]
    have := ih fun i hi => h i (by omega)
    have := h n (by omega)
    cases hp : p n <;> cases hq : q n <;> simp_all <;> omega
theorem cnt_zero {n : Nat} {p : Nat → Bool} (h : ∀ i, i < n → p i = false) : cnt n p = 0 := by
  induction n with
  | zero => rfl
  | succ n ih => simp only [cnt, h n (by omega)]; rw [ih fun i hi => h i (by omega)]; simp
theorem cnt_pos {n : Nat} {p : Nat → Bool} {x : Nat} (hx : x < n) (h : p x = true) : 0 < cnt n p := by
  induction n with
  | zero => omega
  | succ n ih =>
    simp only [cnt]
    by_cases e : x = n
    · subst e; simp [h]
    · have := ih (by omega); omega
theorem cnt_remove {n : Nat} {p : Nat → Bool} {x : Nat} (hx : x < n) (h : p x = true) : cnt n p = cnt n (fun i => p i && !(i == x)) + 1 := by
  induction n with
  | zero => omega
  | succ n ih =>
    simp only [cnt]
    by_cases e : x = n
    · subst e
      rw [cnt_congr (n := x) (q := p) (p := fun i => p i && !(i == x))]
      · simp [h]
      · intro i hi
        have : (i == x) = false := by simp; omega
        simp [this]
    · rw [ih (by omega)]
      have : (n == x) = false := by simp; omega
      simp [this]
      omega
theorem cnt_inj : ∀ (n : Nat) {m : Nat} {p q : Nat → Bool} (f : Nat → Nat), (∀ i, i < n → p i = true → f i < m ∧ q (f i) = true) →
    (∀ i j, i < n → j < n → p i = true → p j = true → f i = f j → i = j) → cnt n p ≤ cnt m q
  | 0, _, _, _, _, _, _ => by simp [cnt]
  | n + 1, m, p, q, f, h1, h2 => by
    simp only [cnt]
    cases hp : p n with
    | false => simpa using cnt_inj n f (fun i hi => h1 i (by omega)) (fun i j hi hj => h2 i j (by omega) (by omega))
    | true =>
      obtain ⟨h3, h4⟩ := h1 n (by omega) hp
      rw [cnt_remove h3 h4]
      have := cnt_inj n (q := fun i => q i && !(i == f n)) f (fun i hi hpi => ⟨(h1 i (by omega) hpi).1, by
        have hq := (h1 i (by omega) hpi).2
        have : (f i == f n) = false := by
          simp
          intro e
          have := h2 i n (by omega) (by omega) hpi hp e
          omega
        simp [hq, this]⟩) (fun i j hi hj => h2 i j (by omega) (by omega))
      simp only [if_true]
      omega

/-! ### matchings -/
structure IsM (n : Nat) (adj : Nat → Nat → Bool) (m : Nat → Nat) : Prop where
  lt : ∀ v, v < n → m v < n
  inv : ∀ v, v < n → m (m v) = v
  adj : ∀ v, v < n → m v ≠ v → adj v (m v) = true

def size (n : Nat) (m : Nat → Nat) : Nat := cnt n fun v => decide (v < m v)
def exposed (n : Nat) (m : Nat → Nat) : Nat := cnt n fun v => decide (m v = v)

theorem IsM.count {n : Nat} {adj : Nat → Nat → Bool} {m : Nat → Nat} (h : IsM n adj m) : n = 2 * size n m + exposed n m := by
  have h1 : cnt n (fun v => decide (v < m v)) ≤ cnt n (fun v => decide (m v < v)) :=
    cnt_inj n m (fun i hi hp => ⟨h.lt i hi, by rw [h.inv i hi]; exact hp⟩) (fun i j hi hj _ _ e => by rw [← h.inv i hi, ← h.inv j hj, e])
  have h2 : cnt n (fun v => decide (m v < v)) ≤ cnt n (fun v => decide (v < m v)) :=
    cnt_inj n m (fun i hi hp => ⟨h.lt i hi, by rw [h.inv i hi]; exact hp⟩) (fun i j hi hj _ _ e => by rw [← h.inv i hi, ← h.inv j hj, e])
  have h3 := cnt_split n (fun _ => true) (fun v => decide (v < m v))
  have h4 := cnt_split n (fun v => true && !decide (v < m v)) (fun v => decide (m v = v))
  rw [cnt_true] at h3
  have e1 : cnt n (fun v => true && decide (v < m v)) = size n m := cnt_congr fun i _ => by simp
  have e2 : cnt n (fun i => (true && !decide (i < m i)) && decide (m i = i)) = exposed n m := cnt_congr fun i _ => by
    by_cases e : m i = i
    · rw [e]; simp
    · simp [e]
  have e3 : cnt n (fun i => (true && !decide (i < m i)) && !decide (m i = i)) = cnt n (fun v => decide (m v < v)) := cnt_congr fun i _ => by
    by_cases e : m i < i
    · have : ¬ i < m i := by omega
      have : m i ≠ i := by omega
      simp [*]
    · by_cases e' : m i = i
      · simp [e']
      · have : i < m i := by omega
        simp [*]
  unfold size at e1 ⊢
  omega

/-! ### a walk by two matchings -/
def walk (M N : Nat → Nat) (r : Nat) : Nat → Nat
  | 0 => r
  | k + 1 => if k % 2 = 0 then N (walk M N r k) else M (walk M N r k)

section
variable {n : Nat} {adj : Nat → Nat → Bool} {M N : Nat → Nat} {r : Nat}

theorem walk_odd (t : Nat) : walk M N r (2 * t + 1) = N (walk M N r (2 * t)) := by
  rw [walk, if_pos (by omega)]
theorem walk_even (t : Nat) : walk M N r (2 * t + 2) = M (walk M N r (2 * t + 1)) := by
  rw [walk, if_neg (by omega)]
theorem walk_lt (hM : IsM n adj M) (hN : IsM n adj N) (hr : r < n) : ∀ k, walk M N r k < n
  | 0 => hr
  | k + 1 => by
    rw [walk]
    split
    · exact hN.lt _ (walk_lt hM hN hr k)
    · exact hM.lt _ (walk_lt hM hN hr k)
theorem walk_odd' (hM : IsM n adj M) (hN : IsM n adj N) (hr : r < n) (t : Nat) : N (walk M N r (2 * t + 1)) = walk M N r (2 * t) := by
  rw [walk_odd, hN.inv _ (walk_lt hM hN hr _)]
theorem walk_even' (hM : IsM n adj M) (hN : IsM n adj N) (hr : r < n) (t : Nat) : M (walk M N r (2 * t + 2)) = walk M N r (2 * t + 1) := by
  rw [walk_even, hM.inv _ (walk_lt hM hN hr _)]

theorem parityA (hM : IsM n adj M) (hN : IsM n adj N) (hr : r < n) {t0 : Nat} (nN : ∀ s, s ≤ t0 → N (walk M N r (2 * s)) ≠ walk M N r (2 * s)) (nM : ∀ s, s < t0 → M (walk M N r (2 * s + 1)) ≠ walk M N r (2 * s + 1)) :
    ∀ (k s t : Nat), t - s = k → s ≤ t → t ≤ t0 → walk M N r (2 * s) ≠ walk M N r (2 * t + 1) := by
  intro k
  induction k using Nat.strongRecOn with
  | _ k ih =>
    intro s t hk hst ht e
    have e1 : walk M N r (2 * s + 1) = walk M N r (2 * t) := by
      rw [walk_odd, e, walk_odd' hM hN hr]
    by_cases hs : s = t
    · subst hs
      rw [walk_odd] at e
      exact nN s ht e.symm
    · obtain ⟨t', rfl⟩ : ∃ t', t = t' + 1 := ⟨t - 1, by omega⟩
      have e2 : walk M N r (2 * s + 2) = walk M N r (2 * t' + 1) := by
        rw [walk_even, e1, show 2 * (t' + 1) = 2 * t' + 2 by omega, walk_even' hM hN hr]
      by_cases h2 : s + 1 ≤ t'
      · exact ih (t' - (s + 1)) (by omega) (s + 1) t' rfl h2 (by omega) (by rw [show 2 * (s + 1) = 2 * s + 2 by omega]; exact e2)
      · obtain rfl : t' = s := by omega
        rw [walk_even] at e2
        exact nM t' (by omega) e2
theorem parity (hM : IsM n adj M) (hN : IsM n adj N) (hr : r < n) {t0 : Nat} (nN : ∀ s, s ≤ t0 → N (walk M N r (2 * s)) ≠ walk M N r (2 * s)) (nM : ∀ s, s < t0 → M (walk M N r (2 * s + 1)) ≠ walk M N r (2 * s + 1))
    (s t : Nat) (hs : s ≤ t0) (ht : t ≤ t0) : walk M N r (2 * s) ≠ walk M N r (2 * t + 1) := by
  by_cases h : s ≤ t
  · exact parityA hM hN hr nN nM _ s t rfl h ht
  · intro e
    obtain ⟨s', rfl⟩ : ∃ s', s = s' + 1 := ⟨s - 1, by omega⟩
    have e1 : walk M N r (2 * s' + 1) = walk M N r (2 * t + 2) := by
      rw [walk_even, ← e, show 2 * (s' + 1) = 2 * s' + 2 by omega, walk_even' hM hN hr]
    by_cases h2 : t + 1 ≤ s'
    · exact parityA hM hN hr nN nM _ (t + 1) s' rfl h2 (by omega) (by rw [show 2 * (t + 1) = 2 * t + 2 by omega]; exact e1.symm)
    · obtain rfl : s' = t := by omega
      rw [walk_even] at e1
      exact nM s' (by omega) e1.symm

/-- What a search that fails leaves behind. -/
structure Cert (n : Nat) (adj : Nat → Nat → Bool) (M : Nat → Nat) (r : Nat) (E O : Nat → Prop) (base : Nat → Nat) : Prop where
  root : E r ∧ base r = r
  edge : ∀ v w, v < n → w < n → E v → adj v w = true → O w ∨ (E w ∧ base w = base v)
  odd : ∀ w, w < n → O w → M w ≠ w ∧ E (M w) ∧ base (M w) = M w
  even : ∀ v, v < n → E v → base v ≠ v → M v ≠ v ∧ E (M v) ∧ base (M v) = base v

theorem trap (hM : IsM n adj M) (hN : IsM n adj N) (hr : r < n) {E O : Nat → Prop} {base : Nat → Nat} (hc : Cert n adj M r E O base) :
    ∀ t, (∀ s, s < t → N (walk M N r (2 * s)) ≠ walk M N r (2 * s)) → E (walk M N r (2 * t)) ∧ (∃ s, s ≤ t ∧ base (walk M N r (2 * t)) = walk M N r (2 * s)) ∧ ∀ s, s < t → M (walk M N r (2 * s + 1)) ≠ walk M N r (2 * s + 1)
  | 0, _ => ⟨hc.root.1, ⟨0, Nat.le_refl _, hc.root.2⟩, fun s hs => by omega⟩
  | t + 1, h => by
    obtain ⟨h1, ⟨s, hs, h2⟩, h3⟩ := trap hM hN hr hc t fun s hs => h s (by omega)
    have hx : walk M N r (2 * t) < n := walk_lt hM hN hr _
    have hy : walk M N r (2 * t + 1) < n := walk_lt hM hN hr _
    have hxy : adj (walk M N r (2 * t)) (walk M N r (2 * t + 1)) = true := by rw [walk_odd]; exact hN.adj _ hx (h t (by omega))
    have hnext : walk M N r (2 * (t + 1)) = M (walk M N r (2 * t + 1)) := by rw [show 2 * (t + 1) = 2 * t + 2 by omega, walk_even]
    have fin : ∀ (g : M (walk M N r (2 * t + 1)) ≠ walk M N r (2 * t + 1)), ∀ s, s < t + 1 → M (walk M N r (2 * s + 1)) ≠ walk M N r (2 * s + 1) := by
      intro g s hs
      by_cases e : s = t
      · subst e; exact g
      · exact h3 s (by omega)
    rcases hc.edge _ _ hx hy h1 hxy with ho | ⟨he, hb⟩
    · obtain ⟨g1, g2, g3⟩ := hc.odd _ hy ho
      refine ⟨by rw [hnext]; exact g2, ⟨t + 1, Nat.le_refl _, by rw [hnext]; exact g3⟩, fin g1⟩
    · have hne : base (walk M N r (2 * t + 1)) ≠ walk M N r (2 * t + 1) := by
        rw [hb, h2]
        exact parity hM hN hr (t0 := t) (fun s hs => h s (by omega)) h3 s t hs (Nat.le_refl _)
      obtain ⟨g1, g2, g3⟩ := hc.even _ hy he hne
      exact ⟨by rw [hnext]; exact g2, ⟨s, by omega, by rw [hnext, g3, hb, h2]⟩, fin g1⟩

theorem walk_distinct (hM : IsM n adj M) (hN : IsM n adj N) (hr : r < n) (hMr : M r = r) {t0 : Nat} (nN : ∀ s, s ≤ t0 → N (walk M N r (2 * s)) ≠ walk M N r (2 * s)) (nM : ∀ s, s < t0 → M (walk M N r (2 * s + 1)) ≠ walk M N r (2 * s + 1)) :
    ∀ (s t : Nat), s < t → t ≤ t0 → walk M N r (2 * s) ≠ walk M N r (2 * t)
  | 0, t, h, ht, e => by
    obtain ⟨t', rfl⟩ : ∃ t', t = t' + 1 := ⟨t - 1, by omega⟩
    have : walk M N r (2 * t' + 1) = walk M N r (2 * 0) := by
      rw [← walk_even' hM hN hr, show 2 * t' + 2 = 2 * (t' + 1) by omega, ← e]
      exact hMr
    exact parity hM hN hr nN nM 0 t' (by omega) (by omega) this.symm
  | s + 1, t, h, ht, e => by
    obtain ⟨t', rfl⟩ : ∃ t', t = t' + 1 := ⟨t - 1, by omega⟩
    refine walk_distinct hM hN hr hMr nN nM s t' (by omega) (by omega) ?_
    have e1 : walk M N r (2 * s + 1) = walk M N r (2 * t' + 1) := by
      rw [← walk_even' hM hN hr s, ← walk_even' hM hN hr t', show 2 * s + 2 = 2 * (s + 1) by omega, show 2 * t' + 2 = 2 * (t' + 1) by omega, e]
    rw [← walk_odd' hM hN hr s, ← walk_odd' hM hN hr t', e1]

theorem walk_stops (hM : IsM n adj M) (hN : IsM n adj N) (hr : r < n) (hMr : M r = r) {E O : Nat → Prop} {base : Nat → Nat} (hc : Cert n adj M r E O base) :
    ∃ t, N (walk M N r (2 * t)) = walk M N r (2 * t) ∧ ∀ s, s < t → N (walk M N r (2 * s)) ≠ walk M N r (2 * s) := by
  by_cases hex : ∃ t, N (walk M N r (2 * t)) = walk M N r (2 * t)
  · obtain ⟨t, ht⟩ := hex
    induction t using Nat.strongRecOn with
    | _ t ih =>
      by_cases h : ∃ s, s < t ∧ N (walk M N r (2 * s)) = walk M N r (2 * s)
      · obtain ⟨s, hs, hs'⟩ := h
        exact ih s hs hs'
      · exact ⟨t, ht, fun s hs e => h ⟨s, hs, e⟩⟩
  · exfalso
    have nN : ∀ s, N (walk M N r (2 * s)) ≠ walk M N r (2 * s) := fun s e => hex ⟨s, e⟩
    have nM : ∀ s, M (walk M N r (2 * s + 1)) ≠ walk M N r (2 * s + 1) := fun s => (trap hM hN hr hc (s + 1) fun s _ => nN s).2.2 s (by omega)
    have := cnt_inj (n + 1) (m := n) (p := fun _ => true) (q := fun _ => true) (fun s => walk M N r (2 * s)) (fun i _ _ => ⟨walk_lt hM hN hr _, rfl⟩) (fun i j hi hj _ _ e => by
      rcases Nat.lt_trichotomy i j with c | c | c
      · exact absurd e (walk_distinct hM hN hr hMr (t0 := n) (fun s _ => nN s) (fun s _ => nM s) i j c (by omega))
      · exact c
      · exact absurd e.symm (walk_distinct hM hN hr hMr (t0 := n) (fun s _ => nN s) (fun s _ => nM s) j i c (by omega)))
    rw [cnt_true, cnt_true] at this
    omega

theorem walk_back (hM : IsM n adj M) (hN : IsM n adj N) {r' : Nat} (hr : r < n) (hr' : r' < n) : ∀ (t k : Nat), walk M N r (2 * t) = walk M N r' (2 * (t + k)) → r = walk M N r' (2 * k)
  | 0, k, e => by rw [Nat.zero_add] at e; exact e
  | t + 1, k, e => by
    refine walk_back hM hN hr hr' t k ?_
    have e1 : walk M N r (2 * t + 1) = walk M N r' (2 * (t + k) + 1) := by
      rw [← walk_even' hM hN hr t, ← walk_even' hM hN hr' (t + k), show 2 * t + 2 = 2 * (t + 1) by omega, show 2 * (t + k) + 2 = 2 * (t + 1 + k) by omega, e]
    rw [← walk_odd' hM hN hr t, ← walk_odd' hM hN hr' (t + k), e1]
end

/-- A matching whose every exposed vertex has a certificate has as many pairs as any. -/
theorem size_max {n : Nat} {adj : Nat → Nat → Bool} {M N : Nat → Nat} (hM : IsM n adj M) (hN : IsM n adj N)
    (hc : ∀ r, r < n → M r = r → ∃ E O base, Cert n adj M r E O base) : size n N ≤ size n M := by
  have key : ∀ r, ∃ x, (r < n → M r = r → N r ≠ r → x < n ∧ N x = x ∧ M x ≠ x ∧ ∃ t, x = walk M N r (2 * t) ∧ 0 < t ∧ ∀ s, s < t → M (walk M N r (2 * s + 1)) ≠ walk M N r (2 * s + 1)) := by
    intro r
    by_cases h : r < n ∧ M r = r ∧ N r ≠ r
    · obtain ⟨hr, hMr, hNr⟩ := h
      obtain ⟨E, O, base, c⟩ := hc r hr hMr
      obtain ⟨t, h1, h2⟩ := walk_stops hM hN hr hMr c
      have ht : 0 < t := by
        rcases Nat.eq_zero_or_pos t with rfl | h
        · exact absurd h1 hNr
        · exact h
      have nM := (trap hM hN hr c t h2).2.2
      refine ⟨walk M N r (2 * t), fun _ _ _ => ⟨walk_lt hM hN hr _, h1, ?_, t, rfl, ht, nM⟩⟩
      obtain ⟨t', rfl⟩ : ∃ t', t = t' + 1 := ⟨t - 1, by omega⟩
      intro e
      rw [show 2 * (t' + 1) = 2 * t' + 2 by omega, walk_even' hM hN hr, walk_even] at e
      exact nM t' (by omega) e.symm
    · exact ⟨0, fun a b c => absurd ⟨a, b, c⟩ h⟩
  obtain ⟨f, hf⟩ := Classical.axiomOfChoice key
  have hinj : ∀ i j, i < n → j < n → M i = i → N i ≠ i → M j = j → N j ≠ j → f i = f j → i = j := by
    intro i j hi hj a b c d e
    obtain ⟨_, _, _, t, ht, htp, hti⟩ := hf i hi a b
    obtain ⟨_, _, _, u, hu, hup, hui⟩ := hf j hj c d
    rw [ht, hu] at e
    have gen : ∀ (i j t u : Nat), i < n → j < n → M i = i → (∀ s, s < u → M (walk M N j (2 * s + 1)) ≠ walk M N j (2 * s + 1)) → walk M N i (2 * t) = walk M N j (2 * u) → t ≤ u → i = j := by
      intro i j t u hi hj a hui e htu
      obtain ⟨k, rfl⟩ : ∃ k, u = t + k := ⟨u - t, by omega⟩
      have h := walk_back hM hN hi hj t k e
      rcases Nat.eq_zero_or_pos k with rfl | hk
      · exact h
      · exfalso
        obtain ⟨k', rfl⟩ : ∃ k', k = k' + 1 := ⟨k - 1, by omega⟩
        rw [h] at a
        rw [show 2 * (k' + 1) = 2 * k' + 2 by omega, walk_even' hM hN hj, walk_even] at a
        exact hui k' (by omega) a.symm
    rcases Nat.le_total t u with h | h
    · exact gen i j t u hi hj a hui e h
    · exact (gen j i u t hj hi c hti e.symm h).symm
  have h1 := cnt_inj n (m := n) (p := fun v => decide (M v = v) && !decide (N v = v)) (q := fun v => decide (N v = v) && !decide (M v = v)) f
    (fun i hi hp => by
      simp at hp
      obtain ⟨a, b, c, _⟩ := hf i hi hp.1 hp.2
      exact ⟨a, by simp [b, c]⟩)
    (fun i j hi hj hp hq e => by
      simp at hp hq
      exact hinj i j hi hj hp.1 hp.2 hq.1 hq.2 e)
  have h2 := cnt_split n (fun v => decide (M v = v)) (fun v => decide (N v = v))
  have h3 := cnt_split n (fun v => decide (N v = v)) (fun v => decide (M v = v))
  have h4 : cnt n (fun i => decide (M i = i) && decide (N i = i)) = cnt n (fun i => decide (N i = i) && decide (M i = i)) := cnt_congr fun i _ => Bool.and_comm _ _
  have h5 := hM.count
  have h6 := hN.count
  unfold exposed at h5 h6
  omega
end Mt

namespace Mt
/-! ### parts -/
inductive Reach (adj : Nat → Nat → Bool) (R : Nat → Bool) (a : Nat) : Nat → Prop
  | refl : R a = true → Reach adj R a a
  | step {b c : Nat} : Reach adj R a b → adj b c = true → R c = true → Reach adj R a c
theorem Reach.mem {adj : Nat → Nat → Bool} {R : Nat → Bool} {a b : Nat} (h : Reach adj R a b) : R b = true := by
  cases h <;> assumption
theorem Reach.start {adj : Nat → Nat → Bool} {R : Nat → Bool} {a b : Nat} (h : Reach adj R a b) : R a = true := by
  induction h with
  | refl h => exact h
  | step _ _ _ ih => exact ih
open Classical in
noncomputable def comp (adj : Nat → Nat → Bool) (R : Nat → Bool) (a : Nat) : Nat → Bool := fun b => decide (Reach adj R a b)
theorem comp_iff {adj : Nat → Nat → Bool} {R : Nat → Bool} {a b : Nat} : comp adj R a b = true ↔ Reach adj R a b := by simp [comp]
/-- What is reached, and closed, is the part. -/
theorem comp_eq {adj : Nat → Nat → Bool} {R : Nat → Bool} {a : Nat} {V : Nat → Bool} (h1 : ∀ v, V v = true → Reach adj R a v) (h2 : V a = true) (h3 : ∀ v c, V v = true → adj v c = true → R c = true → V c = true) : comp adj R a = V := by
  funext b
  have : Reach adj R a b → V b = true := by
    intro h
    induction h with
    | refl _ => exact h2
    | step _ ha hr ih => exact h3 _ _ ih ha hr
  rw [Bool.eq_iff_iff, comp_iff]
  exact ⟨this, h1 b⟩
theorem Reach.mono {adj : Nat → Nat → Bool} {R R' : Nat → Bool} {a b : Nat} (h : Reach adj R a b) (k : ∀ v, R v = true → R' v = true) : Reach adj R' a b := by
  induction h with
  | refl h => exact .refl (k _ h)
  | step _ ha hr ih => exact .step ih ha (k _ hr)
theorem Reach.trans {adj : Nat → Nat → Bool} {R : Nat → Bool} {a b c : Nat} (h : Reach adj R a b) (k : Reach adj R b c) : Reach adj R a c := by
  induction k with
  | refl _ => exact h
  | step _ ha hr ih => exact .step ih ha hr

/-- How many parts have an odd number of items: from one item on. -/
noncomputable def ocFrom (adj : Nat → Nat → Bool) (n : Nat) : Nat → Nat → (Nat → Bool) → Nat
  | 0, _, _ => 0
  | k + 1, a, R => if R a then cnt n (comp adj R a) % 2 + ocFrom adj n k (a + 1) (fun v => R v && !comp adj R a v) else ocFrom adj n k (a + 1) R
noncomputable def oc (adj : Nat → Nat → Bool) (n : Nat) (R : Nat → Bool) : Nat := ocFrom adj n n 0 R
theorem ocFrom_skip {adj : Nat → Nat → Bool} {n : Nat} : ∀ (j k a : Nat) (R : Nat → Bool), (∀ v, a ≤ v → v < a + j → R v = false) → ocFrom adj n (j + k) a R = ocFrom adj n k (a + j) R
  | 0, k, a, R, _ => by simp
  | j + 1, k, a, R, h => by
    rw [show j + 1 + k = (j + k) + 1 by omega, ocFrom, h a (by omega) (by omega)]
    simp only [Bool.false_eq_true, if_false]
    rw [ocFrom_skip j k (a + 1) R (fun v h1 h2 => h v (by omega) (by omega)), show a + 1 + j = a + (j + 1) by omega]
/-- The least item's part is taken first. -/
theorem oc_least {adj : Nat → Nat → Bool} {n a : Nat} {R : Nat → Bool} (ha : R a = true) (han : a < n) (hl : ∀ v, v < a → R v = false) :
    oc adj n R = cnt n (comp adj R a) % 2 + oc adj n (fun v => R v && !comp adj R a v) := by
  have e1 : oc adj n R = ocFrom adj n (n - a) a R := by
    have := ocFrom_skip (adj := adj) (n := n) a (n - a) 0 R (fun v _ hv => hl v (by omega))
    rw [show a + (n - a) = n by omega, Nat.zero_add] at this
    exact this
  have e2 : oc adj n (fun v => R v && !comp adj R a v) = ocFrom adj n (n - a - 1) (a + 1) (fun v => R v && !comp adj R a v) := by
    have := ocFrom_skip (adj := adj) (n := n) (a + 1) (n - a - 1) 0 (fun v => R v && !comp adj R a v) (fun v _ hv => by
      rcases Nat.lt_or_ge v a with c | c
      · simp [hl v c]
      · obtain rfl : v = a := by omega
        have : comp adj R v v = true := comp_iff.2 (.refl ha)
        simp [this])
    rw [show a + 1 + (n - a - 1) = n by omega, Nat.zero_add] at this
    exact this
  rw [e1, e2, show n - a = (n - a - 1) + 1 by omega, ocFrom, ha]
  simp
theorem oc_empty {adj : Nat → Nat → Bool} {n : Nat} {R : Nat → Bool} (h : ∀ v, v < n → R v = false) : oc adj n R = 0 := by
  have := ocFrom_skip (adj := adj) (n := n) n 0 0 R (fun v _ hv => h v (by omega))
  simpa [oc, ocFrom] using this
end Mt

namespace Sp
open Go Am Mt
/-- The error of a cut: from one place on. -/
def cutE (n : Nat) (c : List Int) : Nat → Nat → Int
  | 0, _ => 0
  | k + 1, i => if 0 ≤ c.getD i 0 ∧ c.getD i 0 ≤ (n : Int) - 1 then (if 0 < i ∧ c.getD i 0 ≤ c.getD (i - 1) 0 then 11 else cutE n c k (i + 1)) else 7
def cutS (n : Nat) (c : List Int) : Int := cutE n c c.length 0
theorem cutE_step {n : Nat} {c : List Int} {i : Nat} (h : i < c.length) (h1 : 0 ≤ c.getD i 0 ∧ c.getD i 0 ≤ (n : Int) - 1) (h2 : ¬ (0 < i ∧ c.getD i 0 ≤ c.getD (i - 1) 0)) : cutE n c (c.length - i) i = cutE n c (c.length - (i + 1)) (i + 1) := by
  rw [show c.length - i = (c.length - (i + 1)) + 1 by omega, cutE, if_pos h1, if_neg h2]
theorem cutE_7 {n : Nat} {c : List Int} {i : Nat} (h : i < c.length) (h1 : ¬ (0 ≤ c.getD i 0 ∧ c.getD i 0 ≤ (n : Int) - 1)) : cutE n c (c.length - i) i = 7 := by
  rw [show c.length - i = (c.length - (i + 1)) + 1 by omega, cutE, if_neg h1]
theorem cutE_11 {n : Nat} {c : List Int} {i : Nat} (h : i < c.length) (h1 : 0 ≤ c.getD i 0 ∧ c.getD i 0 ≤ (n : Int) - 1) (h2 : 0 < i ∧ c.getD i 0 ≤ c.getD (i - 1) 0) : cutE n c (c.length - i) i = 11 := by
  rw [show c.length - i = (c.length - (i + 1)) + 1 by omega, cutE, if_pos h1, if_pos h2]
theorem cutE_range {n : Nat} {c : List Int} : ∀ (k i : Nat), cutE n c k i = 0 → ∀ j, i ≤ j → j < i + k → 0 ≤ c.getD j 0 ∧ c.getD j 0 ≤ (n : Int) - 1
  | 0, i, _, j, h1, h2 => by omega
  | k + 1, i, h, j, h1, h2 => by
    unfold cutE at h
    split at h
    · rename_i h3
      split at h
      · omega
      · rcases Nat.lt_or_ge i j with c | c
        · exact cutE_range k (i + 1) h j (by omega) (by omega)
        · rw [show j = i by omega]; exact h3
    · omega
theorem cutS_range {n : Nat} {c : List Int} (h : cutS n c = 0) (j : Nat) (hj : j < c.length) : 0 ≤ c.getD j 0 ∧ c.getD j 0 ≤ (n : Int) - 1 := cutE_range _ _ h j (by omega) (by omega)
/-- What a cut leaves. -/
def leftB (n : Nat) (c : List Int) : Nat → Bool := fun v => decide (v < n) && !decide ((v : Int) ∈ c)
noncomputable def boundV (t : List Int) (I : List (List Rng)) (c : List Int) : Int := Int.tdiv ((I.length : Int) + c.length - oc (alike t I) I.length (leftB I.length c)) 2
noncomputable def boundS (t : List Int) (I : List (List Rng)) (c : List Int) : Int × Int :=
  if check t I = 0 then (if cutS I.length c = 0 then (boundV t I c, 0) else (0, cutS I.length c)) else (0, check t I)
theorem alike_symm (t : List Int) (I : List (List Rng)) (a b : Nat) : alike t I a b = alike t I b a := by
  unfold alike
  rw [near_symm]
  congr 1
  by_cases h : a = b
  · simp [h]
  · simp [h, Ne.symm h]
theorem alike_irrefl (t : List Int) (I : List (List Rng)) (a : Nat) : alike t I a a = false := by simp [alike]
/-- The unseen. -/
def unseen (n : Nat) (l : List Bool) : Nat → Bool := fun v => decide (v < n) && !l.getD v false
theorem oc_le (adj : Nat → Nat → Bool) (n : Nat) (R : Nat → Bool) : oc adj n R ≤ n := by
  have : ∀ k a R, ocFrom adj n k a R ≤ k := by
    intro k
    induction k with
    | zero => intro a R; simp [ocFrom]
    | succ k ih =>
      intro a R
      unfold ocFrom
      split
      · have := ih (a + 1) (fun v => R v && !comp adj R a v)
        have := Nat.mod_lt (cnt n (comp adj R a)) (show 0 < 2 by decide)
        omega
      · have := ih (a + 1) R; omega
  exact this n 0 R
end Sp
namespace Sp
open Mt
/-- Where a search in depth is. -/
structure Dfs (adj : Nat → Nat → Bool) (n : Nat) (l : List Bool) (q : Nat) (l2 : List Bool) (i m : Nat) : Prop where
  len : l2.length = n
  le : i ≤ n
  old : ∀ v, l.getD v false = true → l2.getD v false = true
  root : l2.getD q false = true
  reach : ∀ v, v < n → l2.getD v false = true → l.getD v false = false → Reach adj (unseen n l) q v
  closed : ∀ v c, v < n → l2.getD v false = true → l.getD v false = false → v ≠ q → adj v c = true → unseen n l c = true → l2.getD c false = true
  near : ∀ c, c < i → adj q c = true → unseen n l c = true → l2.getD c false = true
  count : m = cnt n fun v => l2.getD v false && !l.getD v false
theorem unseen_iff {n : Nat} {l : List Bool} {v : Nat} : unseen n l v = true ↔ v < n ∧ l.getD v false = false := by
  unfold unseen
  cases l.getD v false <;> simp
theorem getD_set_eq {l : List Bool} {q : Nat} {b : Bool} (h : q < l.length) : (l.set q b).getD q false = b := by simp [h]
theorem getD_set_ne {l : List Bool} {q v : Nat} {b : Bool} (h : v ≠ q) : (l.set q b).getD v false = l.getD v false := by
  simp [List.getElem?_set_ne (Ne.symm h)]
theorem Dfs.init {adj : Nat → Nat → Bool} {n : Nat} {l : List Bool} {q : Nat} (hl : l.length = n) (hq : q < n) (hlq : l.getD q false = false) : Dfs adj n l q (l.set q true) 0 1 where
  len := by simp [hl]
  le := Nat.zero_le _
  old := fun v hv => by
    by_cases c : v = q
    · subst c; rw [getD_set_eq (by omega)]
    · rw [getD_set_ne c]; exact hv
  root := getD_set_eq (by omega)
  reach := fun v hv h1 h2 => by
    by_cases c : v = q
    · subst c; exact .refl (unseen_iff.2 ⟨hv, h2⟩)
    · rw [getD_set_ne c, h2] at h1; cases h1
  closed := fun v c hv h1 h2 h3 => by
    rw [getD_set_ne h3, h2] at h1; cases h1
  near := fun c hc => by omega
  count := by
    have : cnt n (fun v => (l.set q true).getD v false && !l.getD v false) = cnt n (fun v => v == q) := cnt_congr fun v hv => by
      by_cases c : v = q
      · subst c; rw [getD_set_eq (by omega), hlq]; simp
      · rw [getD_set_ne c]; cases l.getD v false <;> simp [c]
    rw [this, cnt_remove hq (by simp), cnt_zero fun i _ => by cases h : i == q <;> rfl]
theorem Dfs.skip {adj : Nat → Nat → Bool} {n : Nat} {l : List Bool} {q : Nat} {l2 : List Bool} {i m : Nat} (h : Dfs adj n l q l2 i m) (hi : i < n) (hs : l2.getD i false = true ∨ adj q i = false) : Dfs adj n l q l2 (i + 1) m :=
  by
  refine ⟨h.len, hi, h.old, h.root, h.reach, h.closed, fun c hc ha hu => ?_, h.count⟩
  rcases Nat.lt_or_ge c i with k | k
  · exact h.near c k ha hu
  · obtain rfl : c = i := by omega
    rcases hs with hs | hs
    · exact hs
    · rw [hs] at ha; cases ha
theorem Dfs.go {adj : Nat → Nat → Bool} {n : Nat} {l : List Bool} {q : Nat} {l2 l3 : List Bool} {i m : Nat} (h : Dfs adj n l q l2 i m) (hi : i < n) (hs : l2.getD i false = false) (ha : adj q i = true) (hl3 : l3.length = n)
    (h3 : ∀ v, v < n → l3.getD v false = (l2.getD v false || comp adj (unseen n l2) i v)) (hq : q < n) (hlq : l.getD q false = false) : Dfs adj n l q l3 (i + 1) (m + cnt n (comp adj (unseen n l2) i)) := by
  have hli : l.getD i false = false := by
    cases hc : l.getD i false with
    | false => rfl
    | true => rw [h.old i hc] at hs; cases hs
  have hR : ∀ v, unseen n l2 v = true → unseen n l v = true := fun v hv => by
    obtain ⟨h1, h2⟩ := unseen_iff.1 hv
    refine unseen_iff.2 ⟨h1, ?_⟩
    cases hc : l.getD v false with
    | false => rfl
    | true => rw [h.old v hc] at h2; cases h2
  have hlt : ∀ v, l.getD v false = true ∨ l2.getD v false = true ∨ l3.getD v false = true → v < n ∨ l.length > n := fun v hv => by
    rcases hv with hv | hv | hv
    · rcases Nat.lt_or_ge v n with c | c
      · exact .inl c
      · rcases Nat.lt_or_ge n l.length with d | d
        · exact .inr d
        · rw [List.getD_eq_getElem?_getD, List.getElem?_eq_none (by omega)] at hv; cases hv
    · left; rcases Nat.lt_or_ge v n with c | c
      · exact c
      · rw [List.getD_eq_getElem?_getD, List.getElem?_eq_none (by rw [h.len]; omega)] at hv; cases hv
    · left; rcases Nat.lt_or_ge v n with c | c
      · exact c
      · rw [List.getD_eq_getElem?_getD, List.getElem?_eq_none (by omega)] at hv; cases hv
  have h23 : ∀ v, v < n → l2.getD v false = true → l3.getD v false = true := fun v hv h2 => by rw [h3 v hv, h2]; rfl
  have hgt : ∀ v, l2.getD v false = true → v < n := fun v hv => by
    rcases Nat.lt_or_ge v n with c | c
    · exact c
    · rw [List.getD_eq_getElem?_getD, List.getElem?_eq_none (by rw [h.len]; omega)] at hv; cases hv
  have hcomp : ∀ v, comp adj (unseen n l2) i v = true → v < n ∧ l2.getD v false = false := fun v hv => unseen_iff.1 (comp_iff.1 hv).mem
  refine ⟨hl3, hi, fun v hv => h23 v (hgt v (h.old v hv)) (h.old v hv), h23 q hq h.root, fun v hv h1 h2 => ?_, fun v c hv h1 h2 hvq hadj hu => ?_, fun c hc hadj hu => ?_, ?_⟩
  · rw [h3 v hv] at h1
    cases hv2 : l2.getD v false with
    | true => exact h.reach v hv hv2 h2
    | false =>
      rw [hv2] at h1
      have hr := comp_iff.1 (show comp adj (unseen n l2) i v = true by simpa using h1)
      exact (Reach.step (.refl (unseen_iff.2 ⟨hq, hlq⟩)) ha (unseen_iff.2 ⟨hi, hli⟩)).trans (hr.mono hR)
  · have hcn := (unseen_iff.1 hu).1
    rw [h3 v hv] at h1
    cases hv2 : l2.getD v false with
    | true => exact h23 c hcn (h.closed v c hv hv2 h2 hvq hadj hu)
    | false =>
      rw [hv2] at h1
      have hr := comp_iff.1 (show comp adj (unseen n l2) i v = true by simpa using h1)
      rw [h3 c hcn]
      cases hc2 : l2.getD c false with
      | true => rfl
      | false => simp [comp_iff.2 (hr.step hadj (unseen_iff.2 ⟨hcn, hc2⟩))]
  · have hcn := (unseen_iff.1 hu).1
    rcases Nat.lt_or_ge c i with k | k
    · exact h23 c hcn (h.near c k hadj hu)
    · obtain rfl : c = i := by omega
      rw [h3 c hcn, comp_iff.2 (.refl (unseen_iff.2 ⟨hcn, hs⟩))]; simp
  · rw [h.count, cnt_split n (fun v => l3.getD v false && !l.getD v false) (fun v => l2.getD v false)]
    congr 1
    · refine cnt_congr fun v hv => ?_
      rw [h3 v hv]; cases l2.getD v false <;> simp
    · refine cnt_congr fun v hv => ?_
      rw [h3 v hv]
      cases hc : comp adj (unseen n l2) i v with
      | true =>
        have h2 := (hcomp v hc).2
        have : l.getD v false = false := by
          cases hd : l.getD v false with
          | false => rfl
          | true => rw [h.old v hd] at h2; cases h2
        rw [h2, this]; rfl
      | false => cases l2.getD v false <;> simp
theorem Dfs.done {adj : Nat → Nat → Bool} {n : Nat} {l : List Bool} {q : Nat} {l2 : List Bool} {m : Nat} (h : Dfs adj n l q l2 n m) (hq : q < n) (hlq : l.getD q false = false) :
    m = cnt n (comp adj (unseen n l) q) ∧ ∀ v, v < n → l2.getD v false = (l.getD v false || comp adj (unseen n l) q v) := by
  have hc : comp adj (unseen n l) q = fun v => decide (v < n) && (l2.getD v false && !l.getD v false) := by
    refine comp_eq (fun v hv => ?_) (by simp only [h.root, hlq, hq]; decide) (fun v c hv hadj hu => ?_)
    · simp only [Bool.and_eq_true, decide_eq_true_eq, Bool.not_eq_true'] at hv
      exact h.reach v hv.1 hv.2.1 hv.2.2
    · simp only [Bool.and_eq_true, decide_eq_true_eq, Bool.not_eq_true'] at hv ⊢
      obtain ⟨hcn, hlc⟩ := unseen_iff.1 hu
      refine ⟨hcn, ?_, hlc⟩
      by_cases e : v = q
      · subst e; exact h.near c hcn hadj hu
      · exact h.closed v c hv.1 hv.2.1 hv.2.2 e hadj hu
  rw [hc]
  refine ⟨h.count.trans (cnt_congr fun v hv => by simp [hv]), fun v hv => ?_⟩
  have := h.old v
  cases h1 : l.getD v false <;> cases h2 : l2.getD v false <;> simp_all
theorem cnt_lt_of {adj : Nat → Nat → Bool} {n : Nat} {l : List Bool} {q : Nat} {l2 : List Bool} {i m : Nat} (h : Dfs adj n l q l2 i m) (hq : q < n) (hlq : l.getD q false = false) : cnt n (unseen n l2) < cnt n (unseen n l) := by
  rw [cnt_remove hq (unseen_iff.2 ⟨hq, hlq⟩)]
  refine Nat.lt_succ_of_le (cnt_mono fun v hv h2 => ?_)
  obtain ⟨_, h3⟩ := unseen_iff.1 h2
  have h4 : l.getD v false = false := by
    cases hc : l.getD v false with
    | false => rfl
    | true => rw [h.old v hc] at h3; cases h3
  have h5 : v ≠ q := by rintro rfl; rw [h.root] at h3; cases h3
  simp [unseen_iff.2 ⟨hv, h4⟩, h5]
theorem Dfs.count_le {adj : Nat → Nat → Bool} {n : Nat} {l : List Bool} {q : Nat} {l2 : List Bool} {i m : Nat} (h : Dfs adj n l q l2 i m) : m ≤ n := by rw [h.count]; exact cnt_le _ _

theorem unseen_next {adj : Nat → Nat → Bool} {n : Nat} {l l3 : List Bool} {q : Nat} (h3 : ∀ v, v < n → l3.getD v false = (l.getD v false || comp adj (unseen n l) q v)) : unseen n l3 = fun v => unseen n l v && !comp adj (unseen n l) q v := by
  funext v
  rcases Nat.lt_or_ge v n with c | c
  · unfold unseen
    rw [h3 v c]
    simp [c]
    rfl
  · have : decide (v < n) = false := by simp; omega
    simp [unseen, this]
theorem oc_step1 {adj : Nat → Nat → Bool} {n : Nat} {l l3 : List Bool} {i : Nat} (hi : i < n) (hl : l.getD i false = false) (h3 : ∀ v, v < n → l3.getD v false = (l.getD v false || comp adj (unseen n l) i v)) :
    ocFrom adj n (n - i) i (unseen n l) = cnt n (comp adj (unseen n l) i) % 2 + ocFrom adj n (n - (i + 1)) (i + 1) (unseen n l3) := by
  rw [show n - i = (n - (i + 1)) + 1 by omega, ocFrom, unseen_iff.2 ⟨hi, hl⟩, unseen_next h3]
  simp
theorem oc_step0 {adj : Nat → Nat → Bool} {n : Nat} {l : List Bool} {i : Nat} (hi : i < n) (hl : l.getD i false = true) : ocFrom adj n (n - i) i (unseen n l) = ocFrom adj n (n - (i + 1)) (i + 1) (unseen n l) := by
  have : unseen n l i = false := by unfold unseen; rw [hl]; simp
  rw [show n - i = (n - (i + 1)) + 1 by omega, ocFrom, this]
  simp
theorem unseen_left {n : Nat} {l : List Bool} {c : List Int} (h : ∀ v, v < n → l.getD v false = decide ((v : Int) ∈ c)) : unseen n l = leftB n c := by
  funext v
  rcases Nat.lt_or_ge v n with k | k
  · unfold unseen leftB; rw [h v k]
  · have : decide (v < n) = false := by simp; omega
    simp [unseen, leftB, this]
theorem tdiv2_range {x : Int} (h : -1000 ≤ x ∧ x ≤ 1000) : -9223372036854775808 ≤ x.tdiv 2 ∧ x.tdiv 2 ≤ 9223372036854775807 := by
  rw [Int.tdiv_eq_ediv, show Int.sign 2 = 1 from rfl]
  split <;> omega
theorem tmod2 (m : Nat) : (Int.tmod (m : Int) 2 = 1) ↔ m % 2 = 1 := by
  rw [Int.tmod_eq_emod_of_nonneg (by omega)]
  omega
theorem bound_err {x y : Int} (h : ¬ (if x = 0 then y else x) ≠ 0) : x = 0 ∧ y = 0 := by
  by_cases c : x = 0
  · simp [c] at h; exact ⟨c, h⟩
  · simp [c] at h
end Sp

namespace Sp
open Go Am Mt
/-- What 'asked' makes of a sorting. -/
structure Matter (H : AH) (B n : Nat) (t : List Int) (I : List (List Rng)) (m p q : Nat) (u : AV) (N : List Nat) : Prop where
  get : H.get m = some (.cells [.int .i64 n, u, .map p, .map q] true)
  sets : Sets H u N
  len : N.length = n
  bits : ∀ i, i < n → N.getD i 0 < 4294967296 ∧ ∀ j, (N.getD i 0).testBit j = (decide (j < n) && alike t I i j)
  ge : B ≤ m ∧ B ≤ p ∧ B ≤ q ∧ m ≠ p ∧ m ≠ q ∧ p ≠ q
  ub : ∀ c, c ∈ u.blocks → B ≤ c ∧ c ≠ m ∧ c ≠ p ∧ c ≠ q
theorem Cells.keepX {H H' : AH} {b o : Nat} {cs : List AV} (h : Cells H b o cs) (k : ∀ x, H.get b = some x → H'.get b = some x) : Cells H' b o cs := by
  obtain ⟨vs, w, h1, h2⟩ := h
  exact ⟨vs, w, k _ h1, h2⟩
theorem At.keepX {H H' : AH} {v : AV} {z : Nat} {cs : List AV} (h : At H v z cs) (k : ∀ b x, b ∈ v.blocks → H.get b = some x → H'.get b = some x) : At H' v z cs := by
  rcases h with h | ⟨b, o, n, rfl, h2, h3⟩
  · exact .inl h
  · exact .inr ⟨b, o, n, rfl, h2, Cells.keepX h3 fun x hx => k b x (by simp [AV.blocks]) hx⟩
theorem Matter.mono {H H' : AH} {B n : Nat} {t : List Int} {I : List (List Rng)} {m p q : Nat} {u : AV} {N : List Nat} (h : Matter H B n t I m p q u N) (hs : H.Sub H') : Matter H' B n t I m p q u N :=
  ⟨hs.get' h.get, h.sets.mono hs, h.len, h.bits, h.ge, h.ub⟩
theorem Matter.keep {H H' : AH} {B n : Nat} {t : List Int} {I : List (List Rng)} {m p q : Nat} {u : AV} {N : List Nat} (h : Matter H B n t I m p q u N) {ds : List Nat} (hs : AH.SubX ds H H') (hd : ∀ b, b ∈ ds → b = p ∨ b = q ∨ b < B ∨ H.next ≤ b) : Matter H' B n t I m p q u N :=
  ⟨hs.get _ _ (fun hm => by have := hd _ hm; have := h.ge; have := AH.get_lt h.get; omega) h.get,
   At.keepX h.sets fun b x hb hx => hs.get _ _ (fun hm => by have := hd _ hm; have := h.ub b hb; have := AH.get_lt hx; omega) hx, h.len, h.bits, h.ge, h.ub⟩
theorem tb_ge {s n : Nat} (h : ∀ v, s.testBit v = true → v < n) {v : Nat} (hv : n ≤ v) : s.testBit v = false := by
  cases hc : s.testBit v with
  | false => rfl
  | true => have := h v hc; omega
theorem tb_zero {s : Nat} (h : ∀ v, s.testBit v = false) : s = 0 := Nat.eq_of_testBit_eq fun i => by rw [h i]; simp
theorem tb_nonzero {s : Nat} (h : s ≠ 0) : ∃ v, s.testBit v = true := by
  refine Classical.byContradiction fun hc => h (tb_zero fun v => ?_)
  cases hv : s.testBit v with
  | false => rfl
  | true => exact absurd ⟨v, hv⟩ hc
theorem tb_lt32 {s v : Nat} (hs : s < 4294967296) (h : s.testBit v = true) : v < 32 := by
  rcases Nat.lt_or_ge v 32 with c | c
  · exact c
  · have : s.testBit v = false := Nat.testBit_lt_two_pow (Nat.lt_of_lt_of_le hs (show 2 ^ 32 ≤ 2 ^ v from Nat.pow_le_pow_right (by decide) c))
    rw [h] at this; cases this
theorem cnt_tb {s n : Nat} (h : ∀ v, s.testBit v = true → v < n) (hn : n ≤ 32) : cnt 32 (fun v => s.testBit v) = cnt n (fun v => s.testBit v) := by
  have : ∀ k, cnt (n + k) (fun v => s.testBit v) = cnt n (fun v => s.testBit v) := by
    intro k
    induction k with
    | zero => rfl
    | succ k ih =>
      show cnt (n + k) (fun v => s.testBit v) + (if s.testBit (n + k) = true then 1 else 0) = _
      rw [ih, tb_ge h (show n ≤ n + k by omega)]; simp
  have := this (32 - n)
  rwa [show n + (32 - n) = 32 by omega] at this
/-- A search in breadth: what is done, and what is next. -/
structure Bfs (adj : Nat → Nat → Bool) (R : Nat → Bool) (a p x : Nat) : Prop where
  p32 : p < 4294967296
  x32 : x < 4294967296
  reach : ∀ v, p.testBit v = true ∨ x.testBit v = true → Reach adj R a v
  root : p.testBit a = true ∨ x.testBit a = true
  closed : ∀ v c, p.testBit v = true → adj v c = true → R c = true → p.testBit c = true ∨ x.testBit c = true
  apart : ∀ v, x.testBit v = true → p.testBit v = false
theorem Bfs.init {adj : Nat → Nat → Bool} {R : Nat → Bool} {a z : Nat} (hz : z < 4294967296) (ha : R a = true) (hb : ∀ v, z.testBit v = decide (v = a)) : Bfs adj R a 0 z :=
  ⟨by decide, hz, fun v hv => by
    simp only [Nat.zero_testBit, Bool.false_eq_true, false_or] at hv
    rw [hb] at hv
    obtain rfl := of_decide_eq_true hv
    exact .refl ha, .inr (by rw [hb]; simp), fun v c hv => by simp at hv, fun v _ => by simp⟩
theorem Bfs.next {adj : Nat → Nat → Bool} {R : Nat → Bool} {a p x mo y left : Nat} (h : Bfs adj R a p x) (hl : ∀ v, left.testBit v = R v) (hmo : ∀ c, R c = true → (mo.testBit c = true ↔ ∃ j, x.testBit j = true ∧ adj j c = true)) (hy : y = sdiff (mo &&& left) (p ||| x)) (hmo32 : mo < 4294967296) :
    Bfs adj R a (p ||| x) y := by
  have hand : mo &&& left < 4294967296 := Nat.lt_of_le_of_lt Nat.and_le_left hmo32
  have hyb : ∀ v, y.testBit v = true ↔ (∃ j, x.testBit j = true ∧ adj j v = true) ∧ R v = true ∧ p.testBit v = false ∧ x.testBit v = false := by
    intro v
    rw [hy, sdiff_testBit hand, Nat.testBit_and, Nat.testBit_or, hl, Bool.and_eq_true, Bool.and_eq_true]
    simp only [Bool.not_eq_true', Bool.or_eq_false_iff]
    constructor
    · rintro ⟨⟨a, b⟩, c, d⟩; exact ⟨(hmo v b).1 a, b, c, d⟩
    · rintro ⟨a, b, c, d⟩; exact ⟨⟨(hmo v b).2 a, b⟩, c, d⟩
  refine ⟨Nat.or_lt_two_pow (n := 32) h.p32 h.x32, by rw [hy]; exact sdiff_lt _ _, fun v hv => ?_, ?_, fun v c hv hadj hR => ?_, fun v hv => ?_⟩
  · rw [Nat.testBit_or, Bool.or_eq_true] at hv
    rcases hv with hv | hv
    · exact h.reach v hv
    · obtain ⟨⟨j, hj, hadj⟩, hR, _, _⟩ := (hyb v).1 hv
      exact (h.reach j (.inr hj)).step hadj hR
  · left
    rw [Nat.testBit_or, Bool.or_eq_true]; exact h.root
  · rw [Nat.testBit_or, Bool.or_eq_true] at hv ⊢
    rcases hv with hv | hv
    · exact .inl (h.closed v c hv hadj hR)
    · cases h1 : p.testBit c with
      | true => exact .inl (.inl rfl)
      | false =>
        cases h2 : x.testBit c with
        | true => exact .inl (.inr rfl)
        | false => exact .inr ((hyb c).2 ⟨⟨v, hv, hadj⟩, hR, h1, h2⟩)
  · obtain ⟨_, _, h1, h2⟩ := (hyb v).1 hv
    rw [Nat.testBit_or, h1, h2]; rfl
theorem Bfs.done {adj : Nat → Nat → Bool} {R : Nat → Bool} {a p : Nat} (h : Bfs adj R a p 0) : comp adj R a = fun v => p.testBit v :=
  comp_eq (fun v hv => h.reach v (.inl hv)) (by simpa using h.root) fun v c hv hadj hR => by simpa using h.closed v c hv hadj hR
theorem Bfs.less {adj : Nat → Nat → Bool} {R : Nat → Bool} {a p x : Nat} (h : Bfs adj R a p x) (hx : x ≠ 0) : cnt 32 (fun v => !(p ||| x).testBit v) < cnt 32 (fun v => !p.testBit v) := by
  obtain ⟨v, hv⟩ := tb_nonzero hx
  have hpv := h.apart v hv
  have hr := cnt_remove (n := 32) (p := fun v => !p.testBit v) (tb_lt32 h.x32 hv) (by simp [hpv])
  rw [hr]
  refine Nat.lt_succ_of_le (cnt_mono fun w _ hw => ?_)
  rw [Nat.testBit_or] at hw
  have : w ≠ v := by rintro rfl; simp [hv] at hw
  simp at hw ⊢
  exact ⟨hw.1, this⟩
theorem cnt_sdiff_lt {left p i : Nat} (hl : left < 4294967296) (hi : left.testBit i = true) (hp : p.testBit i = true) : cnt 32 (fun v => (sdiff left p).testBit v) < cnt 32 (fun v => left.testBit v) := by
  have hr := cnt_remove (n := 32) (p := fun v => left.testBit v) (tb_lt32 hl hi) hi
  rw [hr]
  refine Nat.lt_succ_of_le (cnt_mono fun w _ hw => ?_)
  rw [sdiff_testBit hl, Bool.and_eq_true] at hw
  have : w ≠ i := by rintro rfl; simp [hp] at hw
  simp [hw.1, this]
/-- One part less. -/
theorem oc_part {adj : Nat → Nat → Bool} {n left p i od tot : Nat} (hl : left < 4294967296) (hll : ∀ v, left.testBit v = true → v < n) (hn : n ≤ 32) (hi : left.testBit i = true) (hlow : ∀ v, v < i → left.testBit v = false) (hb : Bfs adj (fun v => left.testBit v) i p 0)
    (ht : od + oc adj n (fun v => left.testBit v) = tot) : od + cnt 32 (fun v => p.testBit v) % 2 + oc adj n (fun v => (sdiff left p).testBit v) = tot := by
  rw [← ht, oc_least (R := fun v => left.testBit v) hi (hll i hi) hlow, hb.done]
  have e1 : cnt 32 (fun v => p.testBit v) = cnt n (fun v => p.testBit v) := cnt_tb (fun v hv => hll v (hb.reach v (.inl hv)).mem) hn
  have e2 : (fun v => (sdiff left p).testBit v) = fun v => left.testBit v && !p.testBit v := by funext v; exact sdiff_testBit hl v
  rw [e1, e2, Nat.add_assoc]
end Sp
