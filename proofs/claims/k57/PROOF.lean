import PyProof.Rows.All
import Wide.All
import OpenK.AllK
import Wide.FinOn
import HandS.ForMost
import HandS.Walk
import HandS.Zip
import HandS.Wide
import HandS.Flow
import HandS.Conv
import HandS.WideMore
import KE.SortData
import PySem.Challenge.RW_farcuts_k57_whole_rests_that_none_parts
import HandS.Flt
import HandS.SetIn
section
set_option autoImplicit false
namespace K57
/-! fractions -/
/-- the fraction a / d in least numbers (d above 0) -/
def fr (a d : Int) : Int × Int := (a / (Int.gcd a d : Int), d / (Int.gcd a d : Int))
theorem gcd_pos {a d : Int} (h : 0 < d) : 0 < (Int.gcd a d : Int) := by
  have := Int.gcd_pos_of_ne_zero_right a (show d ≠ 0 by omega)
  omega
theorem fr_top {a d : Int} : (fr a d).1 * (Int.gcd a d : Int) = a := Int.ediv_mul_cancel (Int.gcd_dvd_left ..)
theorem fr_bot {a d : Int} : (fr a d).2 * (Int.gcd a d : Int) = d := Int.ediv_mul_cancel (Int.gcd_dvd_right ..)
theorem fr_pos {a d : Int} (h : 0 < d) : 0 < (fr a d).2 := by
  have h1 := gcd_pos (a := a) h
  have h2 := fr_bot (a := a) (d := d)
  rcases Int.lt_trichotomy (fr a d).2 0 with q | q | q
  · have := Int.mul_neg_of_neg_of_pos q h1
    omega
  · rw [q] at h2
    omega
  · exact q
theorem fr_cross {a d : Int} : (fr a d).1 * d = a * (fr a d).2 := by
  have h1 := fr_top (a := a) (d := d)
  have h2 := fr_bot (a := a) (d := d)
  generalize (fr a d).1 = p at *
  generalize (fr a d).2 = q at *
  generalize (Int.gcd a d : Int) = g at *
  grind
theorem fr_dvd {a d : Int} : (fr a d).2 ∣ d := ⟨(Int.gcd a d : Int), fr_bot.symm⟩
theorem fr_eq {a d a' d' : Int} (h : 0 < d) (h' : 0 < d') (e : a * d' = a' * d) : fr a d = fr a' d' := by
  have h0 : Rat.divInt a d = Rat.divInt a' d' := (Rat.divInt_eq_divInt_iff (by omega) (by omega)).mpr e
  have e1 : ∀ x y : Int, 0 < y → fr x y = ((Rat.divInt x y).num, ((Rat.divInt x y).den : Int)) := by
    intro x y hy
    unfold fr
    have hs : y.sign = 1 := Int.sign_eq_one_of_pos hy
    rw [Rat.num_divInt, Rat.den_divInt, hs, Int.one_mul, if_neg (by omega), Int.gcd_comm y x]
    congr 1
    rw [Int.natCast_ediv]
    congr 1
    omega
  rw [e1 _ _ h, e1 _ _ h', h0]
theorem fr_self {a d : Int} (g : Int.gcd a d = 1) : fr a d = (a, d) := by
  unfold fr
  rw [g]
  simp
theorem fr_fr {a d : Int} (h : 0 < d) : fr (fr a d).1 (fr a d).2 = fr a d := fr_eq (fr_pos h) h fr_cross
theorem fr_coprime {a d : Int} (h : 0 < d) : Int.gcd (fr a d).1 (fr a d).2 = 1 := by
  have := gcd_pos (a := a) h
  exact Int.gcd_ediv_gcd_ediv_gcd (by omega)
theorem fr_le {a d : Int} : ((fr a d).1).natAbs ≤ a.natAbs ∧ ((fr a d).2).natAbs ≤ d.natAbs := by
  constructor
  · exact Int.natAbs_ediv_le_natAbs _ _
  · exact Int.natAbs_ediv_le_natAbs _ _
theorem fr_lt {a d : Int} {n : Nat} (ha : a.natAbs < n) (hd : d.natAbs < n) : ((fr a d).1).natAbs < n ∧ ((fr a d).2).natAbs < n :=
  ⟨Nat.lt_of_le_of_lt fr_le.1 ha, Nat.lt_of_le_of_lt fr_le.2 hd⟩
/-- what fraction(top, bottom) gives -/
def plusF (q r : Int × Int) : Int × Int := fr (q.1 * r.2 + r.1 * q.2) (q.2 * r.2)
def minusF (q r : Int × Int) : Int × Int := fr (q.1 * r.2 - r.1 * q.2) (q.2 * r.2)
theorem plusF_fr {a b d : Int} (h : 0 < d) : plusF (fr a d) (fr b d) = fr (a + b) d := by
  unfold plusF
  have h1 := fr_cross (a := a) (d := d)
  have h2 := fr_cross (a := b) (d := d)
  refine fr_eq (Int.mul_pos (fr_pos h) (fr_pos h)) h ?_
  generalize (fr a d).1 = p at *
  generalize (fr a d).2 = q at *
  generalize (fr b d).1 = p' at *
  generalize (fr b d).2 = q' at *
  grind
theorem minusF_fr {a b d : Int} (h : 0 < d) : minusF (fr a d) (fr b d) = fr (a - b) d := by
  unfold minusF
  have h1 := fr_cross (a := a) (d := d)
  have h2 := fr_cross (a := b) (d := d)
  refine fr_eq (Int.mul_pos (fr_pos h) (fr_pos h)) h ?_
  generalize (fr a d).1 = p at *
  generalize (fr a d).2 = q at *
  generalize (fr b d).1 = p' at *
  generalize (fr b d).2 = q' at *
  grind
theorem below_fr {a b d : Int} (h : 0 < d) : (fr a d).1 * (fr b d).2 < (fr b d).1 * (fr a d).2 ↔ a < b := by
  have h1 := fr_cross (a := a) (d := d)
  have h2 := fr_cross (a := b) (d := d)
  have p1 := fr_pos (a := a) h
  have p2 := fr_pos (a := b) h
  generalize (fr a d).1 = p at *
  generalize (fr a d).2 = q at *
  generalize (fr b d).1 = p' at *
  generalize (fr b d).2 = q' at *
  have e1 : (p * q') * d = a * (q * q') := by grind
  have e2 : (p' * q) * d = b * (q * q') := by grind
  have pp : 0 < q * q' := Int.mul_pos p1 p2
  constructor
  · intro z
    have := Int.mul_lt_mul_of_pos_right z h
    rw [e1, e2] at this
    exact Int.lt_of_mul_lt_mul_right this (by omega)
  · intro z
    have := Int.mul_lt_mul_of_pos_right z pp
    rw [← e1, ← e2] at this
    exact Int.lt_of_mul_lt_mul_right this (by omega)
theorem fr_scale {a d k : Int} (h : 0 < d) (hk : 0 < k) : fr (k * a) (k * d) = fr a d := fr_eq (Int.mul_pos hk h) h (by grind)
theorem fr_zero {d : Int} (h : 0 < d) : fr 0 d = (0, 1) := by
  have e : fr 0 d = fr 0 1 := fr_eq h (by omega) (by omega)
  rw [e]
  rfl
theorem fr_inj {a b d : Int} (h : 0 < d) (e : fr a d = fr b d) : a = b := by
  have h1 := fr_cross (a := a) (d := d)
  have h2 := fr_cross (a := b) (d := d)
  rw [← e] at h2
  have p1 := fr_pos (a := a) h
  have e3 : a * (fr a d).2 = b * (fr a d).2 := h1.symm.trans h2
  exact Int.eq_of_mul_eq_mul_right (by omega) e3
/-- the divisor's loop -/
theorem gcd_turn (a b : Int) : Int.gcd b (a.fmod b) = Int.gcd a b := by
  rw [Int.gcd_comm a b]
  rw [Int.fmod_def]
  rw [Int.gcd_sub_mul_left_right]
theorem fmod_small {a b : Int} (h : b ≠ 0) : (a.fmod b).natAbs < b.natAbs := by
  rcases Int.lt_or_gt_of_ne h with q | q
  · have h1 := Int.fmod_nonneg_of_pos (-a) (show 0 < -b by omega)
    have h2 := Int.fmod_lt_of_pos (-a) (show 0 < -b by omega)
    rw [Int.neg_fmod_neg] at h1 h2
    omega
  · have h1 := Int.fmod_nonneg_of_pos a q
    have h2 := Int.fmod_lt_of_pos a q
    omega
end K57
end

section
set_option autoImplicit false
namespace K57
/-! quads, cuts -/
abbrev Mx := Nat → Nat → Int
def quad (A : Mx) (a b c e : Nat) : Int := max (max (A a b + A c e) (A a c + A b e)) (A a e + A b c) - (A a b + A c e)
def pairsL : List Nat → List (Nat × Nat)
  | [] => []
  | x :: xs => ((x :: xs).map fun y => (x, y)) ++ pairsL xs
def quadsL (A : Mx) (side others : List Nat) : List Int := (pairsL side).flatMap fun p => (pairsL others).map fun q => quad A p.1 p.2 q.1 q.2
def leastS (o : Option Int) (v : Int) : Option Int := match o with
  | none => some v
  | some m => some (if v < m then v else m)
def leastO (l : List Int) : Option Int := l.foldl leastS none
def least (A : Mx) (side others : List Nat) : Int := (leastO (quadsL A side others)).getD 0
def beside (side : List Nat) (n : Nat) : List Nat := (List.range n).filter fun x => !decide (x ∈ side)
def okC (A : Mx) (side : List Nat) (m : Nat) : Bool := decide (0 < least A side (beside side m))
def someC (found : List (List Nat)) (p : Nat) : List (List Nat) := [[p]] ++ found ++ found.map (· ++ [p])
def stepC (A : Mx) (found : List (List Nat)) (p : Nat) : List (List Nat) := (someC found p).filter fun side => okC A side (p + 1)
def cutsUp (A : Mx) : Nat → List (List Nat)
  | 0 => []
  | p + 1 => stepC A (cutsUp A p) (p + 1)

theorem leastO_fold : ∀ (l : List Int) (m : Int), ∃ r, l.foldl leastS (some m) = some r ∧ r ≤ m ∧ (∀ v ∈ l, r ≤ v) ∧ (r = m ∨ r ∈ l)
  | [], m => ⟨m, rfl, Int.le_refl _, by simp, .inl rfl⟩
  | v :: l, m => by
    obtain ⟨r, e, h1, h2, h3⟩ := leastO_fold l (if v < m then v else m)
    refine ⟨r, e, ?_, ?_, ?_⟩
    · split at h1 <;> omega
    · intro u hu
      rcases List.mem_cons.mp hu with q | q
      · subst q
        split at h1 <;> omega
      · exact h2 u q
    · rcases h3 with q | q
      · split at q
        · exact .inr (by rw [q]; exact List.mem_cons_self)
        · exact .inl q
      · exact .inr (List.mem_cons_of_mem _ q)
theorem leastO_some {l : List Int} (h : l ≠ []) : ∃ r, leastO l = some r ∧ (∀ v ∈ l, r ≤ v) ∧ r ∈ l := by
  cases l with
  | nil => exact absurd rfl h
  | cons v l =>
    obtain ⟨r, e, h1, h2, h3⟩ := leastO_fold l v
    refine ⟨r, e, ?_, ?_⟩
    · intro u hu
      rcases List.mem_cons.mp hu with q | q
      · rw [q]; exact h1
      · exact h2 u q
    · rcases h3 with q | q
      · rw [q]; exact List.mem_cons_self
      · exact List.mem_cons_of_mem _ q
theorem pairs_in : ∀ {l : List Nat} {p : Nat × Nat}, p ∈ pairsL l → p.1 ∈ l ∧ p.2 ∈ l
  | [], _, h => by simp [pairsL] at h
  | x :: xs, p, h => by
    unfold pairsL at h
    rcases List.mem_append.mp h with q | q
    · obtain ⟨y, hy, rfl⟩ := List.mem_map.mp q
      exact ⟨List.mem_cons_self, hy⟩
    · have := pairs_in q
      exact ⟨List.mem_cons_of_mem _ this.1, List.mem_cons_of_mem _ this.2⟩
theorem pairs_has : ∀ {l : List Nat} {a b : Nat}, a ∈ l → b ∈ l → (a, b) ∈ pairsL l ∨ (b, a) ∈ pairsL l
  | [], _, _, h, _ => by simp at h
  | x :: xs, a, b, ha, hb => by
    unfold pairsL
    rcases List.mem_cons.mp ha with q | q
    · subst q
      exact .inl (List.mem_append_left _ (List.mem_map.mpr ⟨b, hb, rfl⟩))
    · rcases List.mem_cons.mp hb with q' | q'
      · subst q'
        exact .inr (List.mem_append_left _ (List.mem_map.mpr ⟨a, ha, rfl⟩))
      · rcases pairs_has q q' with z | z
        · exact .inl (List.mem_append_right _ z)
        · exact .inr (List.mem_append_right _ z)
theorem pairs_ne {l : List Nat} (h : l ≠ []) : pairsL l ≠ [] := by
  cases l with
  | nil => exact absurd rfl h
  | cons x xs => simp [pairsL]
/-- as far from j to i as from i to j -/
def Sym (A : Mx) : Prop := ∀ i j, A i j = A j i
theorem quad_swap1 {A : Mx} (h : Sym A) (a b c e : Nat) : quad A b a c e = quad A a b c e := by
  unfold quad
  rw [h b a, Int.add_comm (A b c) (A a e), Int.add_comm (A b e) (A a c)]
  omega
theorem quad_swap2 {A : Mx} (h : Sym A) (a b c e : Nat) : quad A a b e c = quad A a b c e := by
  unfold quad
  rw [h e c]
  omega
theorem least_spec {A : Mx} (hA : Sym A) {side others : List Nat} (h1 : side ≠ []) (h2 : others ≠ []) :
    (∀ a ∈ side, ∀ b ∈ side, ∀ c ∈ others, ∀ e ∈ others, least A side others ≤ quad A a b c e) ∧ ∃ a ∈ side, ∃ b ∈ side, ∃ c ∈ others, ∃ e ∈ others, least A side others = quad A a b c e := by
  have hne : quadsL A side others ≠ [] := by
    unfold quadsL
    intro e
    obtain ⟨p, hp⟩ := List.exists_mem_of_ne_nil _ (pairs_ne h1)
    obtain ⟨q, hq⟩ := List.exists_mem_of_ne_nil _ (pairs_ne h2)
    have : quad A p.1 p.2 q.1 q.2 ∈ ([] : List Int) := e ▸ List.mem_flatMap.mpr ⟨p, hp, List.mem_map.mpr ⟨q, hq, rfl⟩⟩
    simp at this
  obtain ⟨r, er, hle, hmem⟩ := leastO_some hne
  have el : least A side others = r := by unfold least; rw [er]; rfl
  rw [el]
  refine ⟨fun a ha b hb c hc e he => ?_, ?_⟩
  · have key : ∀ p ∈ pairsL side, ∀ q ∈ pairsL others, r ≤ quad A p.1 p.2 q.1 q.2 := fun p hp q hq => hle _ (List.mem_flatMap.mpr ⟨p, hp, List.mem_map.mpr ⟨q, hq, rfl⟩⟩)
    rcases pairs_has ha hb with z | z <;> rcases pairs_has hc he with z' | z'
    · exact key _ z _ z'
    · have := key _ z _ z'
      simp only at this
      rw [quad_swap2 hA] at this
      exact this
    · have := key _ z _ z'
      simp only at this
      rw [quad_swap1 hA] at this
      exact this
    · have := key _ z _ z'
      simp only at this
      rw [quad_swap1 hA, quad_swap2 hA] at this
      exact this
  · obtain ⟨p, hp, h⟩ := List.mem_flatMap.mp hmem
    obtain ⟨q, hq, h⟩ := List.mem_map.mp h
    exact ⟨p.1, (pairs_in hp).1, p.2, (pairs_in hp).2, q.1, (pairs_in hq).1, q.2, (pairs_in hq).2, h.symm⟩
theorem mem_beside {side : List Nat} {n x : Nat} : x ∈ beside side n ↔ x < n ∧ x ∉ side := by
  unfold beside
  rw [List.mem_filter, List.mem_range]
  simp

/-- what the sides at stage p are -/
structure SideOk (p : Nat) (side : List Nat) : Prop where
  ne : side ≠ []
  lo : ∀ x ∈ side, 1 ≤ x
  hi : ∀ x ∈ side, x ≤ p
  nd : side.Nodup
theorem SideOk.up {p : Nat} {side : List Nat} (h : SideOk p side) : SideOk (p + 1) side := ⟨h.ne, h.lo, fun x hx => Nat.le_succ_of_le (h.hi x hx), h.nd⟩
theorem SideOk.snoc {p : Nat} {side : List Nat} (h : SideOk p side) : SideOk (p + 1) (side ++ [p + 1]) := by
  refine ⟨by simp, fun x hx => ?_, fun x hx => ?_, ?_⟩
  · rcases List.mem_append.mp hx with q | q
    · exact h.lo x q
    · have : x = p + 1 := by simpa using q
      omega
  · rcases List.mem_append.mp hx with q | q
    · exact Nat.le_succ_of_le (h.hi x q)
    · have : x = p + 1 := by simpa using q
      omega
  · rw [List.nodup_append]
    refine ⟨h.nd, by simp, fun a ha b hb => ?_⟩
    have := h.hi a ha
    have : b = p + 1 := by simpa using hb
    omega
theorem SideOk.one {p : Nat} (h : 1 ≤ p) : SideOk p [p] := ⟨by simp, fun x hx => by
  have : x = p := by simpa using hx
  omega, fun x hx => by
  have : x = p := by simpa using hx
  omega, by simp⟩
theorem mem_some {found : List (List Nat)} {p : Nat} {side : List Nat} : side ∈ someC found p ↔ side = [p] ∨ side ∈ found ∨ ∃ t ∈ found, side = t ++ [p] := by
  unfold someC
  simp only [List.mem_append, List.mem_singleton, List.mem_map]
  constructor
  · rintro ((h | h) | ⟨t, ht, h⟩)
    · exact .inl h
    · exact .inr (.inl h)
    · exact .inr (.inr ⟨t, ht, h.symm⟩)
  · rintro (h | h | ⟨t, ht, h⟩)
    · exact .inl (.inl h)
    · exact .inl (.inr h)
    · exact .inr ⟨t, ht, h.symm⟩
theorem some_ok {found : List (List Nat)} {p : Nat} (h : ∀ s ∈ found, SideOk p s) : ∀ s ∈ someC found (p + 1), SideOk (p + 1) s := by
  intro s hs
  rcases mem_some.mp hs with q | q | ⟨t, ht, q⟩
  · rw [q]; exact .one (by omega)
  · exact (h s q).up
  · rw [q]; exact (h t ht).snoc
theorem cuts_ok (A : Mx) : ∀ p, ∀ s ∈ cutsUp A p, SideOk p s
  | 0, s, h => by simp [cutsUp] at h
  | p + 1, s, h => some_ok (cuts_ok A p) s (List.mem_filter.mp h).1
theorem cuts_pos {A : Mx} {p : Nat} {s : List Nat} (h : s ∈ cutsUp A (p + 1)) : 0 < least A s (beside s (p + 2)) := of_decide_eq_true (List.mem_filter.mp h).2
theorem cuts_len (A : Mx) : ∀ p, (cutsUp A p).length + 1 ≤ 2 ^ p
  | 0 => by simp [cutsUp]
  | p + 1 => by
    have h1 := cuts_len A p
    have h2 : (cutsUp A (p + 1)).length ≤ (someC (cutsUp A p) (p + 1)).length := List.length_filter_le ..
    have h3 : (someC (cutsUp A p) (p + 1)).length = 1 + (cutsUp A p).length + (cutsUp A p).length := by
      unfold someC
      simp
      omega
    rw [Nat.pow_succ]
    omega
theorem append_one_inj {s t : List Nat} {p : Nat} (h : s ++ [p] = t ++ [p]) : s = t := List.append_cancel_right h
theorem some_nodup {found : List (List Nat)} {p : Nat} (h : ∀ s ∈ found, SideOk p s) (hn : found.Nodup) : (someC found (p + 1)).Nodup := by
  unfold someC
  have hno : ∀ s ∈ found, p + 1 ∉ s := fun s hs hm => by
    have := (h s hs).hi _ hm
    omega
  rw [List.nodup_append, List.nodup_append]
  refine ⟨⟨by simp, hn, fun a ha b hb e => ?_⟩, ?_, fun a ha b hb e => ?_⟩
  · have q : a = [p + 1] := by simpa using ha
    rw [← e, q] at hb
    exact hno _ hb (by simp)
  · exact List.Pairwise.map _ (fun a b hab e => hab (append_one_inj e)) hn
  · obtain ⟨t, ht, q⟩ := List.mem_map.mp hb
    rcases List.mem_append.mp ha with z | z
    · have z : a = [p + 1] := by simpa using z
      rw [z, ← q] at e
      have hl := congrArg List.length e
      have ht0 := (h t ht).ne
      have : t.length ≠ 0 := fun k => ht0 (List.length_eq_zero_iff.mp k)
      simp at hl
      exact this (by rw [hl]; rfl)
    · exact hno a z (by rw [e, ← q]; simp)
theorem cuts_nodup (A : Mx) : ∀ p, (cutsUp A p).Nodup
  | 0 => by simp [cutsUp]
  | p + 1 => by
    show ((someC (cutsUp A p) (p + 1)).filter fun side => okC A side (p + 1 + 1)).Nodup
    exact List.Pairwise.filter _ (some_nodup (cuts_ok A p) (cuts_nodup A p))

/-! no cut at all -/
def Bare (n : Nat) (A : Mx) : Prop := ∀ S : Nat → Prop, (∃ a, a < n ∧ S a) → (∃ c, c < n ∧ ¬ S c) → ∃ a b c e, a < n ∧ b < n ∧ c < n ∧ e < n ∧ S a ∧ S b ∧ ¬ S c ∧ ¬ S e ∧ quad A a b c e ≤ 0
theorem side_rest {n : Nat} {s : List Nat} (hs : SideOk n s) : beside s (n + 1) ≠ [] := by
  intro e
  have : 0 ∈ beside s (n + 1) := mem_beside.mpr ⟨by omega, fun h => by
    have := hs.lo 0 h
    omega⟩
  rw [e] at this
  simp at this
theorem bare_cuts {n : Nat} {A : Mx} (hA : Sym A) (hn : 2 ≤ n) (h : Bare n A) : cutsUp A (n - 1) = [] := by
  obtain ⟨p, rfl⟩ : ∃ p, n = p + 2 := ⟨n - 2, by omega⟩
  show cutsUp A (p + 1) = []
  rw [List.eq_nil_iff_forall_not_mem]
  intro s hs
  have ok := cuts_ok A _ s hs
  have pos := cuts_pos hs
  have rest := side_rest ok
  obtain ⟨x, hx⟩ := List.exists_mem_of_ne_nil _ ok.ne
  obtain ⟨a, b, c, e, ha, hb, hc, he, sa, sb, nc, ne, q⟩ := h (fun x => x ∈ s) ⟨x, by have := ok.hi x hx; omega, hx⟩ ⟨0, by omega, fun z => by have := ok.lo 0 z; omega⟩
  have := (least_spec hA ok.ne rest).1 a sa b sb c (mem_beside.mpr ⟨hc, nc⟩) e (mem_beside.mpr ⟨he, ne⟩)
  exact absurd (Int.lt_of_lt_of_le pos this) (by omega)
end K57
end

section
set_option autoImplicit false
namespace K57
theorem lcm_step {b c D : Int} (hD : 0 < D) (hb : 0 < b) (hc : 0 < c) (h1 : b ∣ D) (h2 : c ∣ D) : 0 < b / (Int.gcd b c : Int) * c ∧ b / (Int.gcd b c : Int) * c ∣ D ∧ b ∣ b / (Int.gcd b c : Int) * c ∧ c ∣ b / (Int.gcd b c : Int) * c := by
  have hg : 0 < (Int.gcd b c : Int) := by
    have := Int.gcd_pos_of_ne_zero_right b (show c ≠ 0 by omega)
    omega
  have e1 : b / (Int.gcd b c : Int) * (Int.gcd b c : Int) = b := Int.ediv_mul_cancel (Int.gcd_dvd_left ..)
  have e2 : (Int.gcd b c : Int) * (Int.lcm b c : Int) = b * c := by
    have := Int.gcd_mul_lcm b c
    have h3 : (b.natAbs : Int) = b := Int.natAbs_of_nonneg (by omega)
    have h4 : (c.natAbs : Int) = c := Int.natAbs_of_nonneg (by omega)
    rw [← Int.natCast_mul, this, Int.natCast_mul, h3, h4]
  have e3 : b / (Int.gcd b c : Int) * c = (Int.lcm b c : Int) := by
    refine Int.eq_of_mul_eq_mul_left (show (Int.gcd b c : Int) ≠ 0 by omega) ?_
    rw [e2]
    generalize b / (Int.gcd b c : Int) = q at *
    generalize (Int.gcd b c : Int) = g at *
    grind
  rw [e3]
  have hd : (D.natAbs : Int) = D := Int.natAbs_of_nonneg (by omega)
  refine ⟨?_, ?_, Int.dvd_lcm_left .., Int.dvd_lcm_right ..⟩
  · have : 0 < b * c := Int.mul_pos hb hc
    rw [← e2] at this
    exact Int.pos_of_mul_pos_right this (by omega)
  · rw [← hd]
    rw [← hd] at h1 h2
    exact Int.natCast_dvd_natCast.mpr (Int.lcm_dvd h1 h2)
/-- a whole number so many times -/
theorem whole_mul {a D by_ : Int} (hD : 0 < D) (h : (fr a D).2 ∣ by_) : (fr a D).1 * (by_ / (fr a D).2) * D = a * by_ := by
  have h1 := fr_cross (a := a) (d := D)
  have h2 := fr_pos (a := a) hD
  have h3 : by_ / (fr a D).2 * (fr a D).2 = by_ := Int.ediv_mul_cancel h
  generalize by_ / (fr a D).2 = q at *
  generalize (fr a D).1 = x at *
  generalize (fr a D).2 = y at *
  grind
end K57
end

section
set_option autoImplicit false
namespace K57
/-! so many times as much -/
theorem quad_scale {r A : Mx} {n : Nat} {D b : Int} (hD : 0 < D) (hb : 0 < b) (h : ∀ i j, i < n → j < n → r i j * D = A i j * b) {a c e f : Nat} (ha : a < n) (hc : c < n) (he : e < n) (hf : f < n) : quad r a c e f * D = quad A a c e f * b := by
  have h1 := h a c ha hc
  have h2 := h e f he hf
  have h3 := h a e ha he
  have h4 := h c f hc hf
  have h5 := h a f ha hf
  have h6 := h c e hc he
  unfold quad
  have mx : ∀ x y x' y' : Int, x * D = x' * b → y * D = y' * b → max x y * D = max x' y' * b := by
    intro x y x' y' ex ey
    rcases Int.le_total x y with q | q
    · have q1 : x * D ≤ y * D := Int.mul_le_mul_of_nonneg_right q (by omega)
      rw [ex, ey] at q1
      have q2 : x' ≤ y' := Int.le_of_mul_le_mul_right q1 hb
      rw [Int.max_eq_right q, Int.max_eq_right q2, ey]
    · have q1 : y * D ≤ x * D := Int.mul_le_mul_of_nonneg_right q (by omega)
      rw [ex, ey] at q1
      have q2 : y' ≤ x' := Int.le_of_mul_le_mul_right q1 hb
      rw [Int.max_eq_left q, Int.max_eq_left q2, ex]
  have e1 : (r a c + r e f) * D = (A a c + A e f) * b := by grind
  have e2 : (r a e + r c f) * D = (A a e + A c f) * b := by grind
  have e3 : (r a f + r c e) * D = (A a f + A c e) * b := by grind
  rw [Int.sub_mul, Int.sub_mul, mx _ _ _ _ (mx _ _ _ _ e1 e2) e3, e1]
theorem least_scale {r A : Mx} {n : Nat} {D b : Int} (hD : 0 < D) (hb : 0 < b) (h : ∀ i j, i < n → j < n → r i j * D = A i j * b) {side others : List Nat} (h1 : ∀ x ∈ side, x < n) (h2 : ∀ x ∈ others, x < n) : least r side others * D = least A side others * b := by
  have fold : ∀ (l : List (Int × Int)) (o o' : Option Int), (∀ p ∈ l, p.1 * D = p.2 * b) → (∀ m, o = some m → ∃ m', o' = some m' ∧ m * D = m' * b) → (o = none → o' = none) →
      ((l.map (·.1)).foldl leastS o).getD 0 * D = ((l.map (·.2)).foldl leastS o').getD 0 * b := by
    intro l
    induction l with
    | nil =>
      intro o o' _ h3 h4
      cases o with
      | none => rw [h4 rfl]; simp
      | some m =>
        obtain ⟨m', e, h5⟩ := h3 m rfl
        rw [e]
        exact h5
    | cons p l ih =>
      intro o o' hl h3 h4
      rw [List.map_cons, List.map_cons, List.foldl_cons, List.foldl_cons]
      have hp := hl p List.mem_cons_self
      refine ih _ _ (fun q hq => hl q (List.mem_cons_of_mem _ hq)) (fun m hm => ?_) (fun hn => ?_)
      · cases o with
        | none =>
          rw [h4 rfl]
          have e : p.1 = m := by simpa [leastS] using hm
          exact ⟨p.2, rfl, by rw [← e]; exact hp⟩
        | some k =>
          obtain ⟨k', e, h5⟩ := h3 k rfl
          rw [e]
          have e2 : (if p.1 < k then p.1 else k) = m := by simpa [leastS] using hm
          refine ⟨_, rfl, ?_⟩
          rw [← e2]
          by_cases q : p.1 < k
          · have q1 : p.1 * D < k * D := Int.mul_lt_mul_of_pos_right q hD
            rw [hp, h5] at q1
            have q2 : p.2 < k' := Int.lt_of_mul_lt_mul_right q1 (by omega)
            rw [if_pos q, if_pos q2]
            exact hp
          · have q1 : k * D ≤ p.1 * D := Int.mul_le_mul_of_nonneg_right (by omega) (by omega)
            rw [hp, h5] at q1
            have q2 : k' ≤ p.2 := Int.le_of_mul_le_mul_right q1 hb
            rw [if_neg q, if_neg (by omega)]
            exact h5
      · cases o <;> simp [leastS] at hn
  have key : ∀ (ps : List (Nat × Nat)) (qs : List (Nat × Nat)), ∃ l : List (Int × Int), (∀ p ∈ l, ∃ u ∈ ps, ∃ v ∈ qs, p.1 = quad r u.1 u.2 v.1 v.2 ∧ p.2 = quad A u.1 u.2 v.1 v.2) ∧
      (ps.flatMap fun p => qs.map fun q => quad r p.1 p.2 q.1 q.2) = l.map (·.1) ∧ (ps.flatMap fun p => qs.map fun q => quad A p.1 p.2 q.1 q.2) = l.map (·.2) := by
    intro ps qs
    refine ⟨ps.flatMap fun p => qs.map fun q => (quad r p.1 p.2 q.1 q.2, quad A p.1 p.2 q.1 q.2), fun p hp => ?_, ?_, ?_⟩
    · obtain ⟨u, hu, h3⟩ := List.mem_flatMap.mp hp
      obtain ⟨v, hv, h3⟩ := List.mem_map.mp h3
      exact ⟨u, hu, v, hv, by rw [← h3], by rw [← h3]⟩
    · rw [List.map_flatMap]
      congr 1
      funext p
      rw [List.map_map]
      rfl
    · rw [List.map_flatMap]
      congr 1
      funext p
      rw [List.map_map]
      rfl
  obtain ⟨l, hl, e1, e2⟩ := key (pairsL side) (pairsL others)
  unfold least leastO quadsL
  rw [e1, e2]
  refine fold l none none (fun p hp => ?_) (fun m hm => nomatch hm) (fun _ => rfl)
  obtain ⟨u, hu, v, hv, e3, e4⟩ := hl p hp
  rw [e3, e4]
  have i1 := pairs_in hu
  have i2 := pairs_in hv
  exact quad_scale hD hb h (h1 _ i1.1) (h1 _ i1.2) (h2 _ i2.1) (h2 _ i2.2)
theorem nodup_len : ∀ (n : Nat) {l : List Nat}, l.Nodup → (∀ x ∈ l, x < n) → l.length ≤ n
  | 0, l, _, h => by
    cases l with
    | nil => simp
    | cons a l => exact absurd (h a List.mem_cons_self) (by omega)
  | n + 1, l, hn, h => by
    by_cases hm : n ∈ l
    · have h1 := nodup_len n (hn.erase n) fun x hx => by
        have := (hn.mem_erase_iff).mp hx
        have := h x this.2
        omega
      rw [List.length_erase_of_mem hm] at h1
      omega
    · have h1 := nodup_len n hn fun x hx => by
        have := h x hx
        have : x ≠ n := fun e => hm (e ▸ hx)
        omega
      omega
theorem beside_lt {s : List Nat} {m : Nat} : ∀ x ∈ beside s m, x < m := fun _ h => (mem_beside.mp h).1
theorem cuts_scale {r A : Mx} {n : Nat} {D b : Int} (hD : 0 < D) (hb : 0 < b) (h : ∀ i j, i < n → j < n → r i j * D = A i j * b) : ∀ p, p < n → cutsUp r p = cutsUp A p
  | 0, _ => rfl
  | p + 1, hp => by
    show stepC r (cutsUp r p) (p + 1) = stepC A (cutsUp A p) (p + 1)
    rw [cuts_scale hD hb h p (by omega)]
    unfold stepC
    refine List.filter_congr fun s hs => ?_
    have ok := some_ok (cuts_ok A p) s hs
    have e := least_scale hD hb h (side := s) (others := beside s (p + 1 + 1)) (fun x hx => by have := ok.hi x hx; omega) (fun x hx => by have := beside_lt x hx; omega)
    unfold okC
    refine decide_eq_decide.mpr ?_
    constructor
    · intro q
      have : 0 < least r s (beside s (p + 1 + 1)) * D := Int.mul_pos q hD
      rw [e] at this
      exact Int.pos_of_mul_pos_left this (by omega)
    · intro q
      have : 0 < least A s (beside s (p + 1 + 1)) * b := Int.mul_pos q hb
      rw [← e] at this
      exact Int.pos_of_mul_pos_left this (by omega)
end K57
end

section
set_option autoImplicit false
set_option maxRecDepth 100000
namespace K57
/-! sums of cuts -/
def partC (c : List Nat × Int) (i j : Nat) : Int := if decide (i ∈ c.1) = decide (j ∈ c.1) then 0 else c.2
def sumC (cuts : List (List Nat × Int)) : Mx := fun i j => (cuts.map fun c => partC c i j).sum
def totC (cuts : List (List Nat × Int)) : Int := (cuts.map fun c => c.2).sum
theorem sumC_take {cuts : List (List Nat × Int)} {k : Nat} {c : List Nat × Int} (h : cuts[k]? = some c) (i j : Nat) : sumC (cuts.take (k + 1)) i j = sumC (cuts.take k) i j + partC c i j := by
  unfold sumC
  rw [List.take_add_one, h]
  simp
theorem part_le {c : List Nat × Int} (h : 0 ≤ c.2) (i j : Nat) : 0 ≤ partC c i j ∧ partC c i j ≤ c.2 := by
  unfold partC
  split <;> omega
theorem sum_le : ∀ {cuts : List (List Nat × Int)}, (∀ c ∈ cuts, 0 ≤ c.2) → ∀ i j, 0 ≤ sumC cuts i j ∧ sumC cuts i j ≤ totC cuts
  | [], _, i, j => by simp [sumC, totC]
  | c :: cuts, h, i, j => by
    have h1 := part_le (h c List.mem_cons_self) i j
    have h2 := sum_le (fun c hc => h c (List.mem_cons_of_mem _ hc)) i j
    unfold sumC totC at *
    simp only [List.map_cons, List.sum_cons]
    omega
theorem tot_take : ∀ {cuts : List (List Nat × Int)}, (∀ c ∈ cuts, 0 ≤ c.2) → ∀ k, totC (cuts.take k) ≤ totC cuts
  | [], _, k => by simp
  | c :: cuts, h, 0 => by
    have h2 := sum_le h 0 0
    simp only [List.take_zero]
    show totC [] ≤ _
    unfold totC at *
    simp only [List.map_nil, List.sum_nil]
    omega
  | c :: cuts, h, k + 1 => by
    have h2 := tot_take (fun c hc => h c (List.mem_cons_of_mem _ hc)) k
    unfold totC at *
    simp only [List.take_succ_cons, List.map_cons, List.sum_cons]
    omega
theorem tot_mem : ∀ {cuts : List (List Nat × Int)}, (∀ c ∈ cuts, 0 ≤ c.2) → ∀ c ∈ cuts, c.2 ≤ totC cuts
  | [], _, c, hc => by simp at hc
  | d :: cuts, h, c, hc => by
    have h0 := sum_le (fun c hc => h c (List.mem_cons_of_mem _ hc)) 0 0
    have hd := h d List.mem_cons_self
    unfold totC at *
    simp only [List.map_cons, List.sum_cons]
    rcases List.mem_cons.mp hc with q | q
    · subst q
      omega
    · have := tot_mem (fun c hc => h c (List.mem_cons_of_mem _ hc)) c q
      unfold totC at this
      omega
def evenM (f : Int) : Mx := fun i j => if i = j then 0 else f
def upN (n : Nat) : List Nat := (List.range (n - 1)).map fun k => k + 1
def trivL (n : Nat) : List (List Nat) := (upN n).map (fun p => [p]) ++ [upN n]
def evenOk (n : Nat) : Bool :=
  decide ((cutsUp (evenM 1) (n - 1)).Perm (trivL n)) && (trivL n).all (fun s => decide (least (evenM 1) s (beside s n) = 1)) &&
  (List.range n).all (fun i => (List.range n).all fun j => decide (((trivL n).map fun s => partC (s, 1) i j).sum = 2 * evenM 1 i j))
theorem even3 : evenOk 3 = true := by decide +kernel
theorem even4 : evenOk 4 = true := by decide +kernel
theorem even5 : evenOk 5 = true := by decide +kernel
theorem even6 : evenOk 6 = true := by decide +kernel
theorem even7 : evenOk 7 = true := by decide +kernel
theorem even_ok {n : Nat} (h1 : 3 ≤ n) (h2 : n ≤ 7) : evenOk n = true := by
  have h : n = 3 ∨ n = 4 ∨ n = 5 ∨ n = 6 ∨ n = 7 := by omega
  rcases h with rfl | rfl | rfl | rfl | rfl
  · exact even3
  · exact even4
  · exact even5
  · exact even6
  · exact even7
theorem even2 : cutsUp (evenM 1) 1 = [[1]] ∧ least (evenM 1) [1] (beside [1] 2) = 2 := by decide +kernel
theorem even_scale {f : Int} (n : Nat) : ∀ i j, i < n → j < n → evenM f i j * 1 = evenM 1 i j * f := by
  intro i j _ _
  unfold evenM
  split <;> omega
theorem sumC_perm {l m : List (List Nat × Int)} (h : l.Perm m) (i j : Nat) : sumC l i j = sumC m i j := by
  unfold sumC
  induction h with
  | nil => rfl
  | cons x _ ih => simp only [List.map_cons, List.sum_cons, ih]
  | swap x y l => simp only [List.map_cons, List.sum_cons]; omega
  | trans _ _ ih1 ih2 => exact ih1.trans ih2
theorem totC_perm {l m : List (List Nat × Int)} (h : l.Perm m) : totC l = totC m := by
  unfold totC
  induction h with
  | nil => rfl
  | cons x _ ih => simp only [List.map_cons, List.sum_cons, ih]
  | swap x y l => simp only [List.map_cons, List.sum_cons]; omega
  | trans _ _ ih1 ih2 => exact ih1.trans ih2
theorem part_scale (s : List Nat) (f : Int) (i j : Nat) : partC (s, f) i j = f * partC (s, 1) i j := by
  unfold partC
  simp only
  split <;> simp
theorem sum_scale (f : Int) (i j : Nat) : ∀ l : List (List Nat), sumC (l.map fun s => (s, f)) i j = f * (l.map fun s => partC (s, 1) i j).sum
  | [] => by simp [sumC]
  | s :: l => by
    have ih := sum_scale f i j l
    unfold sumC at *
    simp only [List.map_cons, List.sum_cons]
    rw [ih, part_scale, Int.mul_add]
theorem tot_const (f : Int) : ∀ l : List (List Nat), totC (l.map fun s => (s, f)) = f * (l.length : Int)
  | [] => by simp [totC]
  | s :: l => by
    have ih := tot_const f l
    unfold totC at *
    simp only [List.map_cons, List.sum_cons, List.length_cons]
    rw [ih, Int.natCast_add, Int.mul_add]
    omega
theorem even_facts {f : Int} (hf : 0 < f) {n : Nat} (h1 : 3 ≤ n) (h2 : n ≤ 7) : (cutsUp (evenM f) (n - 1)).Perm (trivL n) ∧ (∀ s ∈ trivL n, least (evenM f) s (beside s n) = f) ∧ ∀ i j, i < n → j < n → f * ((trivL n).map fun s => partC (s, 1) i j).sum = 2 * evenM f i j := by
  have e := even_ok h1 h2
  unfold evenOk at e
  rw [Bool.and_eq_true, Bool.and_eq_true] at e
  obtain ⟨⟨e1, e2⟩, e3⟩ := e
  have e1 := of_decide_eq_true e1
  have c := cuts_scale (r := evenM f) (A := evenM 1) (n := n) (D := 1) (b := f) (by omega) hf (even_scale n) (n - 1) (by omega)
  refine ⟨by rw [c]; exact e1, fun s hs => ?_, fun i j hi hj => ?_⟩
  · have ok := cuts_ok (evenM 1) (n - 1) s (e1.mem_iff.mpr hs)
    have q := least_scale (r := evenM f) (A := evenM 1) (n := n) (D := 1) (b := f) (by omega) hf (even_scale n) (side := s) (others := beside s n) (fun x hx => by have := ok.hi x hx; omega) (fun x hx => beside_lt x hx)
    rw [of_decide_eq_true (List.all_eq_true.mp e2 s hs)] at q
    omega
  · rw [of_decide_eq_true (List.all_eq_true.mp (List.all_eq_true.mp e3 i (List.mem_range.mpr hi)) j (List.mem_range.mpr hj))]
    unfold evenM
    split <;> omega
theorem even_two {f : Int} (hf : 0 < f) : cutsUp (evenM f) 1 = [[1]] ∧ least (evenM f) [1] (beside [1] 2) = 2 * f := by
  have c := cuts_scale (r := evenM f) (A := evenM 1) (n := 2) (D := 1) (b := f) (by omega) hf (even_scale 2) 1 (by omega)
  have q := least_scale (r := evenM f) (A := evenM 1) (n := 2) (D := 1) (b := f) (by omega) hf (even_scale 2) (side := [1]) (others := beside [1] 2) (fun x hx => by rw [show x = 1 by simpa using hx]; omega) (fun x hx => beside_lt x hx)
  rw [even2.2] at q
  exact ⟨c.trans even2.1, by omega⟩
end K57
end

section
set_option autoImplicit false
set_option maxRecDepth 100000
namespace K57
/-! sided tables: no cut, and with ends -/
def Kof (s : Nat → Bool) : Mx := fun i j => if i = j then 0 else if s i = s j then 2 else 1
structure Shape (n : Nat) (s : Nat → Bool) : Prop where
  lo : 5 ≤ n
  hi : n ≤ 7
  yes : ∃ a b, a < n ∧ b < n ∧ a ≠ b ∧ s a = true ∧ s b = true
  no : ∃ a b, a < n ∧ b < n ∧ a ≠ b ∧ s a = false ∧ s b = false
theorem kof_same {s : Nat → Bool} {i j : Nat} (h : i ≠ j) (e : s i = s j) : Kof s i j = 2 := by unfold Kof; rw [if_neg h, if_pos e]
theorem kof_diff {s : Nat → Bool} {i j : Nat} (e : s i ≠ s j) : Kof s i j = 1 := by
  unfold Kof
  rw [if_neg (fun h => e (by rw [h])), if_neg e]
theorem kof_self {s : Nat → Bool} {i : Nat} : Kof s i i = 0 := if_pos rfl
theorem kof_sym (s : Nat → Bool) : Sym (Kof s) := fun i j => by
  unfold Kof
  by_cases h : i = j
  · rw [if_pos h, if_pos h.symm]
  · rw [if_neg h, if_neg (Ne.symm h)]
    by_cases e : s i = s j
    · rw [if_pos e, if_pos e.symm]
    · rw [if_neg e, if_neg (Ne.symm e)]
theorem kof_range (s : Nat → Bool) (i j : Nat) : 0 ≤ Kof s i j ∧ Kof s i j ≤ 2 ∧ (i ≠ j → 1 ≤ Kof s i j) := by
  unfold Kof
  by_cases h : i = j
  · rw [if_pos h]
    exact ⟨by omega, by omega, fun q => absurd h q⟩
  · rw [if_neg h]
    by_cases e : s i = s j
    · rw [if_pos e]
      exact ⟨by omega, by omega, fun _ => by omega⟩
    · rw [if_neg e]
      exact ⟨by omega, by omega, fun _ => by omega⟩
theorem kof_tri (s : Nat → Bool) (i j k : Nat) : Kof s i k ≤ Kof s i j + Kof s j k := by
  have h1 := kof_range s i k
  have h2 := kof_range s i j
  have h3 := kof_range s j k
  by_cases e1 : i = j
  · rw [e1, kof_self]; omega
  · by_cases e2 : j = k
    · rw [e2, kof_self]; omega
    · have := h2.2.2 e1
      have := h3.2.2 e2
      omega
theorem bool3 {a b c : Bool} (h : a ≠ b) : c = a ∨ c = b := by cases a <;> cases b <;> cases c <;> simp_all
/-- the three sums of four unlike points: the first is not below another one -/
def Flat4 (A : Mx) (a b c e : Nat) : Prop := A a c + A b e ≤ A a b + A c e ∧ A a e + A b c ≤ A a b + A c e
theorem flat_quad {A : Mx} {a b c e : Nat} : quad A a b c e ≤ 0 ↔ Flat4 A a b c e := by
  unfold quad Flat4
  omega
theorem k_flat {s : Nat → Bool} {a b c e : Nat} (ab : a ≠ b) (ce : c ≠ e) (ac : a ≠ c) (ae : a ≠ e) (bc : b ≠ c) (be : b ≠ e) (h : s a = s b ∨ s c = s e) : Flat4 (Kof s) a b c e := by
  have r1 := kof_range s a c
  have r2 := kof_range s b e
  have r3 := kof_range s a e
  have r4 := kof_range s b c
  unfold Flat4
  by_cases h1 : s a = s b
  · rw [kof_same ab h1]
    by_cases h2 : s c = s e
    · rw [kof_same ce h2]
      omega
    · rw [kof_diff h2]
      rcases bool3 (c := s a) h2 with q | q
      · rw [kof_same ac q, kof_diff (show s b ≠ s e by rw [← h1, q]; exact h2), kof_diff (show s a ≠ s e by rw [q]; exact h2), kof_same bc (by rw [← h1, q])]
        omega
      · rw [kof_diff (show s a ≠ s c by rw [q]; exact Ne.symm h2), kof_same be (by rw [← h1, q]), kof_same ae q, kof_diff (show s b ≠ s c by rw [← h1, q]; exact Ne.symm h2)]
        omega
  · have h2 : s c = s e := h.resolve_left h1
    rw [kof_same ce h2, kof_diff h1]
    rcases bool3 (c := s c) h1 with q | q
    · rw [kof_same ac q.symm, kof_diff (show s b ≠ s e by rw [← h2, q]; exact Ne.symm h1), kof_same ae (by rw [← h2, q]), kof_diff (show s b ≠ s c by rw [q]; exact Ne.symm h1)]
      omega
    · rw [kof_diff (show s a ≠ s c by rw [q]; exact h1), kof_same be (by rw [← h2, q]), kof_diff (show s a ≠ s e by rw [← h2, q]; exact h1), kof_same bc q.symm]
      omega
theorem fifth (a b c e : Nat) : ∃ x, x < 5 ∧ x ≠ a ∧ x ≠ b ∧ x ≠ c ∧ x ≠ e := by
  by_cases h0 : 0 ≠ a ∧ 0 ≠ b ∧ 0 ≠ c ∧ 0 ≠ e
  · exact ⟨0, by omega, h0⟩
  by_cases h1 : 1 ≠ a ∧ 1 ≠ b ∧ 1 ≠ c ∧ 1 ≠ e
  · exact ⟨1, by omega, h1⟩
  by_cases h2 : 2 ≠ a ∧ 2 ≠ b ∧ 2 ≠ c ∧ 2 ≠ e
  · exact ⟨2, by omega, h2⟩
  by_cases h3 : 3 ≠ a ∧ 3 ≠ b ∧ 3 ≠ c ∧ 3 ≠ e
  · exact ⟨3, by omega, h3⟩
  exact ⟨4, by omega, by omega, by omega, by omega, by omega⟩
/-- both sides of two points at least -/
theorem k_two {n : Nat} {s : Nat → Bool} (hn : 5 ≤ n) {S : Nat → Prop} (h1 : ∃ a b, a < n ∧ b < n ∧ a ≠ b ∧ S a ∧ S b) (h2 : ∃ a b, a < n ∧ b < n ∧ a ≠ b ∧ ¬ S a ∧ ¬ S b) :
    ∃ a b c e, a < n ∧ b < n ∧ c < n ∧ e < n ∧ S a ∧ S b ∧ ¬ S c ∧ ¬ S e ∧ a ≠ b ∧ c ≠ e ∧ Flat4 (Kof s) a b c e := by
  have cross : ∀ {x y}, S x → ¬ S y → x ≠ y := fun hx hy e => hy (e ▸ hx)
  obtain ⟨a, b, la, lb, ab, sa, sb⟩ := h1
  obtain ⟨c, e, lc, le, ce, nc, ne⟩ := h2
  by_cases hA : ∃ a b, a < n ∧ b < n ∧ a ≠ b ∧ S a ∧ S b ∧ s a = s b
  · obtain ⟨a, b, la, lb, ab, sa, sb, h⟩ := hA
    exact ⟨a, b, c, e, la, lb, lc, le, sa, sb, nc, ne, ab, ce, k_flat ab ce (cross sa nc) (cross sa ne) (cross sb nc) (cross sb ne) (.inl h)⟩
  · by_cases hB : ∃ c e, c < n ∧ e < n ∧ c ≠ e ∧ ¬ S c ∧ ¬ S e ∧ s c = s e
    · obtain ⟨c, e, lc, le, ce, nc, ne, h⟩ := hB
      exact ⟨a, b, c, e, la, lb, lc, le, sa, sb, nc, ne, ab, ce, k_flat ab ce (cross sa nc) (cross sa ne) (cross sb nc) (cross sb ne) (.inr h)⟩
    · exfalso
      have hab : s a ≠ s b := fun h => hA ⟨a, b, la, lb, ab, sa, sb, h⟩
      have hce : s c ≠ s e := fun h => hB ⟨c, e, lc, le, ce, nc, ne, h⟩
      obtain ⟨x, x5, xa, xb, xc, xe⟩ := fifth a b c e
      by_cases hx : S x
      · rcases bool3 (c := s x) hab with q | q
        · exact hA ⟨x, a, by omega, la, xa, hx, sa, q⟩
        · exact hA ⟨x, b, by omega, lb, xb, hx, sb, q⟩
      · rcases bool3 (c := s x) hce with q | q
        · exact hB ⟨x, c, by omega, lc, xc, hx, nc, q⟩
        · exact hB ⟨x, e, by omega, le, xe, hx, ne, q⟩
/-- two points on the other side of p -/
theorem k_one {n : Nat} {s : Nat → Bool} (h : Shape n s) (p : Nat) : ∃ c e, c < n ∧ e < n ∧ c ≠ p ∧ e ≠ p ∧ c ≠ e ∧ s c = s e ∧ s p ≠ s c := by
  cases hp : s p with
  | true =>
    obtain ⟨c, e, lc, le, ce, hc, he⟩ := h.no
    refine ⟨c, e, lc, le, fun q => ?_, fun q => ?_, ce, by rw [hc, he], by rw [hc]; decide⟩
    · rw [q, hp] at hc; cases hc
    · rw [q, hp] at he; cases he
  | false =>
    obtain ⟨c, e, lc, le, ce, hc, he⟩ := h.yes
    refine ⟨c, e, lc, le, fun q => ?_, fun q => ?_, ce, by rw [hc, he], by rw [hc]; decide⟩
    · rw [q, hp] at hc; cases hc
    · rw [q, hp] at he; cases he
theorem dich {n : Nat} (S : Nat → Prop) (h : ∃ a, a < n ∧ S a) : (∃ a b, a < n ∧ b < n ∧ a ≠ b ∧ S a ∧ S b) ∨ ∃ p, p < n ∧ S p ∧ ∀ x, x < n → S x → x = p := by
  obtain ⟨p, hp, sp⟩ := h
  by_cases q : ∃ x, x < n ∧ x ≠ p ∧ S x
  · obtain ⟨x, hx, xp, sx⟩ := q
    exact .inl ⟨x, p, hx, hp, xp, sx, sp⟩
  · exact .inr ⟨p, hp, sp, fun x hx sx => Classical.byContradiction fun e => q ⟨x, hx, e, sx⟩⟩
def sidedM (f : Int) (s : Nat → Bool) : Mx := fun i j => f * Kof s i j
theorem flat_scale {f : Int} {A : Mx} (hf : 0 ≤ f) {a b c e : Nat} (h : Flat4 A a b c e) : Flat4 (fun i j => f * A i j) a b c e := by
  unfold Flat4 at *
  have h1 := Int.mul_le_mul_of_nonneg_left h.1 hf
  have h2 := Int.mul_le_mul_of_nonneg_left h.2 hf
  rw [Int.mul_add, Int.mul_add] at h1 h2
  exact ⟨h1, h2⟩
theorem bare_sided {n : Nat} {s : Nat → Bool} {f : Int} (h : Shape n s) (hf : 0 ≤ f) : Bare n (sidedM f s) := by
  intro S hS hN
  rcases dich S hS with h1 | ⟨p, lp, sp, onl⟩
  · rcases dich (fun x => ¬ S x) hN with h2 | ⟨q, lq, nq, onl⟩
    · obtain ⟨a, b, c, e, la, lb, lc, le, sa, sb, nc, ne, _, _, hf4⟩ := k_two (s := s) h.lo h1 h2
      exact ⟨a, b, c, e, la, lb, lc, le, sa, sb, nc, ne, flat_quad.mpr (flat_scale hf hf4)⟩
    · obtain ⟨a, b, la, lb, aq, bq, ab, hab, hne⟩ := k_one h q
      have mem : ∀ x, x < n → x ≠ q → S x := fun x hx xq => Classical.byContradiction fun z => xq (onl x hx z)
      refine ⟨a, b, q, q, la, lb, lq, lq, mem a la aq, mem b lb bq, nq, nq, flat_quad.mpr (flat_scale hf ?_)⟩
      unfold Flat4
      rw [kof_same ab hab, kof_self, kof_diff (Ne.symm hne), kof_diff (show s b ≠ s q by rw [← hab]; exact Ne.symm hne)]
      omega
  · obtain ⟨c, e, lc, le, cp, ep, ce, hce, hne⟩ := k_one h p
    have non : ∀ x, x < n → x ≠ p → ¬ S x := fun x hx xp z => xp (onl x hx z)
    refine ⟨p, p, c, e, lp, lp, lc, le, sp, sp, non c lc cp, non e le ep, flat_quad.mpr (flat_scale hf ?_)⟩
    unfold Flat4
    rw [kof_same ce hce, kof_self, kof_diff hne, kof_diff (show s p ≠ s e by rw [← hce]; exact hne)]
    omega
theorem sided_sym (f : Int) (s : Nat → Bool) : Sym (sidedM f s) := fun i j => by
  unfold sidedM
  rw [kof_sym s i j]
/-! with ends -/
def wM (w : Nat → Int) : Mx := fun i j => if i = j then 0 else w i + w j
def endsM (f : Int) (s : Nat → Bool) (D : Int) (w : Nat → Int) : Mx := fun i j => f * Kof s i j + D * wM w i j
theorem wM_sym (w : Nat → Int) : Sym (wM w) := fun i j => by
  unfold wM
  by_cases h : i = j
  · rw [if_pos h, if_pos h.symm]
  · rw [if_neg h, if_neg (Ne.symm h), Int.add_comm]
theorem ends_sym (f : Int) (s : Nat → Bool) (D : Int) (w : Nat → Int) : Sym (endsM f s D w) := fun i j => by
  unfold endsM
  rw [kof_sym s i j, wM_sym w i j]
structure EndsOk (n : Nat) (f : Int) (s : Nat → Bool) (D : Int) (w : Nat → Int) : Prop where
  sh : Shape n s
  f0 : 1 ≤ f
  d0 : 1 ≤ D
  w0 : w 0 = 0
  wp : ∀ p, 0 ≤ w p
section
variable {n : Nat} {f D : Int} {s : Nat → Bool} {w : Nat → Int}
theorem wM_ne {i j : Nat} (h : i ≠ j) : wM w i j = w i + w j := if_neg h
theorem wM_self {i : Nat} : wM w i i = 0 := if_pos rfl
theorem ends_flat (h : EndsOk n f s D w) {a b c e : Nat} (ab : a ≠ b) (ce : c ≠ e) (ac : a ≠ c) (ae : a ≠ e) (bc : b ≠ c) (be : b ≠ e) (hk : Flat4 (Kof s) a b c e) : Flat4 (endsM f s D w) a b c e := by
  have h1 := flat_scale (f := f) (by have := h.f0; omega) hk
  unfold Flat4 at *
  dsimp only at h1
  unfold endsM
  rw [wM_ne ab, wM_ne ce, wM_ne ac, wM_ne ae, wM_ne bc, wM_ne be]
  simp only [Int.mul_add]
  omega
/-- the cut of one point: never below twice its weight -/
theorem ends_quad_lo (h : EndsOk n f s D w) {p c e : Nat} (pc : p ≠ c) (pe : p ≠ e) : 2 * (D * w p) ≤ quad (endsM f s D w) p p c e := by
  have hq : endsM f s D w p c + endsM f s D w p e - endsM f s D w c e ≤ quad (endsM f s D w) p p c e := by
    unfold quad
    have e0 : endsM f s D w p p = 0 := by unfold endsM; rw [kof_self, wM_self]; omega
    rw [e0]
    omega
  refine Int.le_trans ?_ hq
  unfold endsM
  rw [wM_ne pc, wM_ne pe]
  have hf : 0 ≤ f := by have := h.f0; omega
  by_cases ce : c = e
  · subst ce
    rw [kof_self, wM_self]
    have h1 := Int.mul_nonneg hf (kof_range s p c).1
    have h2 := Int.mul_nonneg (show 0 ≤ D by have := h.d0; omega) (h.wp c)
    simp only [Int.mul_add, Int.mul_zero]
    omega
  · rw [wM_ne ce]
    have h3 := Int.mul_le_mul_of_nonneg_left (kof_tri s c p e) hf
    rw [kof_sym s c p] at h3
    simp only [Int.mul_add] at h3 ⊢
    omega
theorem ends_quad_hi (h : EndsOk n f s D w) (p : Nat) : ∃ c e, c < n ∧ e < n ∧ c ≠ p ∧ e ≠ p ∧ quad (endsM f s D w) p p c e = 2 * (D * w p) := by
  obtain ⟨c, e, lc, le, cp, ep, ce, hce, hne⟩ := k_one h.sh p
  refine ⟨c, e, lc, le, cp, ep, ?_⟩
  have e0 : endsM f s D w p p = 0 := by unfold endsM; rw [kof_self, wM_self]; omega
  have hw := Int.mul_nonneg (show 0 ≤ D by have := h.d0; omega) (h.wp p)
  unfold quad
  rw [e0]
  unfold endsM
  rw [wM_ne (Ne.symm cp), wM_ne (Ne.symm ep), wM_ne ce, kof_same ce hce, kof_diff hne, kof_diff (show s p ≠ s e by rw [← hce]; exact hne)]
  simp only [Int.mul_add]
  omega
theorem ends_least_lo (h : EndsOk n f s D w) {p m : Nat} (h1 : 1 ≤ p) (h2 : p < m) : 2 * (D * w p) ≤ least (endsM f s D w) [p] (beside [p] m) := by
  have hne : beside [p] m ≠ [] := by
    intro e
    have : 0 ∈ beside [p] m := mem_beside.mpr ⟨by omega, by simp; omega⟩
    rw [e] at this
    simp at this
  obtain ⟨a, ha, b, hb, c, hc, e, he, q⟩ := (least_spec (ends_sym f s D w) (side := [p]) (by simp) hne).2
  have ha : a = p := by simpa using ha
  have hb : b = p := by simpa using hb
  subst ha
  subst hb
  rw [q]
  have c1 := (mem_beside.mp hc).2
  have e1 := (mem_beside.mp he).2
  exact ends_quad_lo h (fun z => c1 (by simp [z])) (fun z => e1 (by simp [z]))
theorem ends_least (h : EndsOk n f s D w) {p : Nat} (h1 : 1 ≤ p) (h2 : p < n) : least (endsM f s D w) [p] (beside [p] n) = 2 * (D * w p) := by
  refine Int.le_antisymm ?_ (ends_least_lo h h1 h2)
  obtain ⟨c, e, lc, le, cp, ep, q⟩ := ends_quad_hi h p
  have hc : c ∈ beside [p] n := mem_beside.mpr ⟨lc, by simpa using cp⟩
  have he : e ∈ beside [p] n := mem_beside.mpr ⟨le, by simpa using ep⟩
  have hne : beside [p] n ≠ [] := fun z => by rw [z] at hc; simp at hc
  rw [← q]
  exact (least_spec (ends_sym f s D w) (side := [p]) (by simp) hne).1 p (by simp) p (by simp) c hc e he
theorem ends_in (h : EndsOk n f s D w) {p : Nat} (h1 : 1 ≤ p) (hw : 0 < w p) : ∀ m, p ≤ m → [p] ∈ cutsUp (endsM f s D w) m
  | 0, h0 => absurd h0 (by omega)
  | m + 1, hm => by
    refine List.mem_filter.mpr ⟨mem_some.mpr ?_, decide_eq_true ?_⟩
    · by_cases e : p = m + 1
      · exact .inl (by rw [e])
      · exact .inr (.inl (ends_in h h1 hw m (by omega)))
    · have h3 := ends_least_lo h h1 (show p < m + 1 + 1 by omega)
      have h4 := Int.mul_pos (show 0 < D by have := h.d0; omega) hw
      omega
theorem one_list {l : List Nat} {p : Nat} (hn : l.Nodup) (hne : l ≠ []) (h : ∀ x ∈ l, x = p) : l = [p] := by
  cases l with
  | nil => exact absurd rfl hne
  | cons a l =>
    have ha := h a List.mem_cons_self
    cases l with
    | nil => rw [ha]
    | cons b l =>
      have hb := h b (List.mem_cons_of_mem _ List.mem_cons_self)
      have := (List.nodup_cons.mp hn).1
      exact absurd (show a ∈ b :: l by rw [ha, hb]; exact List.mem_cons_self) this
theorem ends_cut (h : EndsOk n f s D w) {side : List Nat} (hs : side ∈ cutsUp (endsM f s D w) (n - 1)) : ∃ p, 1 ≤ p ∧ p < n ∧ side = [p] ∧ 0 < w p := by
  obtain ⟨m, rfl⟩ : ∃ m, n = m + 2 := ⟨n - 2, by have := h.sh.lo; omega⟩
  have hs : side ∈ cutsUp (endsM f s D w) (m + 1) := hs
  have ok := cuts_ok _ _ side hs
  have pos := cuts_pos hs
  have rest := side_rest ok
  have low := (least_spec (ends_sym f s D w) ok.ne rest).1
  have no : ∀ a b c e, a ∈ side → b ∈ side → c < m + 2 → e < m + 2 → c ∉ side → e ∉ side → ¬ quad (endsM f s D w) a b c e ≤ 0 := by
    intro a b c e ha hb hc he nc ne q
    have := low a ha b hb c (mem_beside.mpr ⟨hc, nc⟩) e (mem_beside.mpr ⟨he, ne⟩)
    exact absurd (Int.lt_of_lt_of_le pos this) (by omega)
  obtain ⟨x, hx⟩ := List.exists_mem_of_ne_nil _ ok.ne
  have lt : ∀ x ∈ side, x < m + 2 := fun x hx => by have := ok.hi x hx; omega
  have z0 : 0 ∉ side := fun z => by have := ok.lo 0 z; omega
  rcases dich (n := m + 2) (fun x => x ∈ side) ⟨x, lt x hx, hx⟩ with h1 | ⟨p, lp, sp, onl⟩
  · exfalso
    rcases dich (n := m + 2) (fun x => ¬ x ∈ side) ⟨0, by omega, z0⟩ with h2 | ⟨q, lq, nq, onl⟩
    · obtain ⟨a, b, c, e, la, lb, lc, le, sa, sb, nc, ne, ab, ce, hf4⟩ := k_two (s := s) h.sh.lo h1 h2
      have cross : ∀ {x y}, x ∈ side → ¬ y ∈ side → x ≠ y := fun hx hy e => hy (e ▸ hx)
      exact no a b c e sa sb lc le nc ne (flat_quad.mpr (ends_flat h ab ce (cross sa nc) (cross sa ne) (cross sb nc) (cross sb ne) hf4))
    · have q0 : 0 = q := onl 0 (by omega) z0
      subst q0
      obtain ⟨a, b, la, lb, a0, b0, ab, hab, hne⟩ := k_one h.sh 0
      have mem : ∀ x, x < m + 2 → x ≠ 0 → x ∈ side := fun x hx x0 => Classical.byContradiction fun z => x0 (onl x hx z)
      refine no a b 0 0 (mem a la a0) (mem b lb b0) (by omega) (by omega) z0 z0 (flat_quad.mpr ?_)
      unfold Flat4 endsM
      rw [kof_same ab hab, kof_self, kof_diff (Ne.symm hne), kof_diff (show s b ≠ s 0 by rw [← hab]; exact Ne.symm hne), wM_self, wM_ne ab, wM_ne a0, wM_ne b0, h.w0]
      simp only [Int.mul_add]
      omega
  · have e := one_list ok.nd ok.ne fun x hx => onl x (lt x hx) hx
    have p1 : 1 ≤ p := ok.lo p sp
    refine ⟨p, p1, lp, e, ?_⟩
    rw [e] at pos
    have pos : 0 < least (endsM f s D w) [p] (beside [p] (m + 2)) := pos
    rw [ends_least h p1 lp] at pos
    have : 0 < D * w p := by omega
    exact Int.pos_of_mul_pos_right this (by have := h.d0; omega)
end
end K57
end

section
set_option autoImplicit false
set_option maxRecDepth 100000
namespace K57
/-! ### with ends: lists -/
def endsI (w : Nat → Int) (k : Nat) : List (List Nat × Int) := (List.range k).filterMap fun i => if 0 < w (i + 1) then some ([i + 1], w (i + 1)) else none
theorem endsI_succ (w : Nat → Int) (k : Nat) : endsI w (k + 1) = endsI w k ++ if 0 < w (k + 1) then [([k + 1], w (k + 1))] else [] := by
  unfold endsI
  rw [List.range_succ, List.filterMap_append]
  congr 1
  by_cases h : 0 < w (k + 1)
  · simp [h]
  · simp [h]
theorem fmap_congr {α β : Type} {f g : α → Option β} : ∀ {l : List α}, (∀ x ∈ l, f x = g x) → l.filterMap f = l.filterMap g
  | [], _ => rfl
  | x :: l, h => by
    rw [List.filterMap_cons, List.filterMap_cons, h x List.mem_cons_self, fmap_congr fun y hy => h y (List.mem_cons_of_mem _ hy)]
theorem endsI_congr {w w' : Nat → Int} {k : Nat} (h : ∀ p, p ≤ k → w p = w' p) : endsI w k = endsI w' k := by
  unfold endsI
  refine fmap_congr fun i hi => ?_
  rw [h (i + 1) (by have := List.mem_range.mp hi; omega)]
theorem mem_endsI {w : Nat → Int} {k : Nat} {c : List Nat × Int} (h : c ∈ endsI w k) : ∃ p, 1 ≤ p ∧ p ≤ k ∧ 0 < w p ∧ c = ([p], w p) := by
  unfold endsI at h
  obtain ⟨i, hi, e⟩ := List.mem_filterMap.mp h
  have hi := List.mem_range.mp hi
  by_cases q : 0 < w (i + 1)
  · rw [if_pos q] at e
    exact ⟨i + 1, by omega, by omega, q, (Option.some.inj e).symm⟩
  · rw [if_neg q] at e
    cases e
theorem endsI_len (w : Nat → Int) (k : Nat) : (endsI w k).length ≤ k := by
  unfold endsI
  have := List.length_filterMap_le (fun i => if 0 < w (i + 1) then some ([i + 1], w (i + 1)) else none) (List.range k)
  rw [List.length_range] at this
  exact this
theorem endsI_pos (w : Nat → Int) (k : Nat) : ∀ c ∈ endsI w k, 0 ≤ c.2 := fun c hc => by
  obtain ⟨p, _, _, h, rfl⟩ := mem_endsI hc
  exact Int.le_of_lt h
theorem tot_bound {b : Int} : ∀ {l : List (List Nat × Int)}, (∀ c ∈ l, c.2 ≤ b) → totC l ≤ b * (l.length : Int)
  | [], _ => by simp [totC]
  | c :: l, h => by
    have h1 := h c List.mem_cons_self
    have h2 := tot_bound fun c hc => h c (List.mem_cons_of_mem _ hc)
    unfold totC at *
    simp only [List.map_cons, List.sum_cons, List.length_cons]
    rw [Int.natCast_add, Int.mul_add]
    omega
theorem sumC_append (l m : List (List Nat × Int)) (i j : Nat) : sumC (l ++ m) i j = sumC l i j + sumC m i j := by
  unfold sumC
  rw [List.map_append, List.sum_append]
theorem endsI_sum0 {w : Nat → Int} (hp : ∀ p, 0 ≤ w p) (i j : Nat) : ∀ k, sumC (endsI w k) i j = if i = j then 0 else (if 1 ≤ i ∧ i ≤ k then w i else 0) + (if 1 ≤ j ∧ j ≤ k then w j else 0)
  | 0 => by
    show (0 : Int) = _
    rw [if_neg (show ¬ (1 ≤ i ∧ i ≤ 0) by omega), if_neg (show ¬ (1 ≤ j ∧ j ≤ 0) by omega)]
    split <;> rfl
  | k + 1 => by
    rw [endsI_succ, sumC_append, endsI_sum0 hp i j k]
    have e : sumC (if 0 < w (k + 1) then [([k + 1], w (k + 1))] else []) i j = if i = j then 0 else (if i = k + 1 then w i else 0) + (if j = k + 1 then w j else 0) := by
      by_cases h : 0 < w (k + 1)
      · rw [if_pos h]
        unfold sumC partC
        simp only [List.map_cons, List.map_nil, List.sum_cons, List.sum_nil, List.mem_singleton]
        by_cases hij : i = j
        · subst hij
          simp
        · rw [if_neg hij]
          by_cases hi : i = k + 1
          · have hj : ¬ j = k + 1 := by omega
            simp [hi, hj]
          · by_cases hj : j = k + 1
            · simp [hi, hj]
            · simp [hi, hj]
      · rw [if_neg h]
        have h0 : w (k + 1) = 0 := by have := hp (k + 1); omega
        show (0 : Int) = _
        by_cases hij : i = j
        · rw [if_pos hij]
        · rw [if_neg hij]
          by_cases hi : i = k + 1
          · rw [if_pos hi, hi, h0, if_neg (show ¬ j = k + 1 by omega)]; rfl
          · by_cases hj : j = k + 1
            · rw [if_neg hi, if_pos hj, hj, h0]; rfl
            · rw [if_neg hi, if_neg hj]; rfl
    rw [e]
    by_cases hij : i = j
    · rw [if_pos hij, if_pos hij, if_pos hij]; rfl
    · rw [if_neg hij, if_neg hij, if_neg hij]
      have one : ∀ x : Nat, (if 1 ≤ x ∧ x ≤ k + 1 then w x else 0) = (if 1 ≤ x ∧ x ≤ k then w x else 0) + (if x = k + 1 then w x else 0) := by
        intro x
        by_cases h1 : x = k + 1
        · rw [if_pos (show 1 ≤ x ∧ x ≤ k + 1 by omega), if_neg (show ¬ (1 ≤ x ∧ x ≤ k) by omega), if_pos h1]; omega
        · rw [if_neg h1]
          by_cases h2 : 1 ≤ x ∧ x ≤ k
          · rw [if_pos h2, if_pos (show 1 ≤ x ∧ x ≤ k + 1 by omega)]; omega
          · rw [if_neg h2, if_neg (show ¬ (1 ≤ x ∧ x ≤ k + 1) by omega)]; rfl
      rw [one i, one j]
      omega
theorem endsI_sum {w : Nat → Int} (hp : ∀ p, 0 ≤ w p) (h0 : w 0 = 0) {n i j : Nat} (hi : i < n) (hj : j < n) : sumC (endsI w (n - 1)) i j = wM w i j := by
  rw [endsI_sum0 hp]
  unfold wM
  have one : ∀ x : Nat, x < n → (if 1 ≤ x ∧ x ≤ n - 1 then w x else 0) = w x := by
    intro x hx
    by_cases h : 1 ≤ x ∧ x ≤ n - 1
    · rw [if_pos h]
    · rw [if_neg h]
      have : x = 0 := by omega
      rw [this, h0]
  rw [one i hi, one j hj]
/-- one name, once -/
theorem find_one {α β : Type} [DecidableEq α] {S : List α} (g : α → β) {t : α} (hn : S.Nodup) (h : t ∈ S) : (S.map fun s => (s, g s)).filterMap (fun c => if c.1 = t then some c.2 else none) = [g t] := by
  induction S with
  | nil => simp at h
  | cons s S ih =>
    have hn2 := List.nodup_cons.mp hn
    rw [List.map_cons]
    by_cases e : s = t
    · have : (S.map fun s => (s, g s)).filterMap (fun c => if c.1 = t then some c.2 else none) = [] := by
        refine List.filterMap_eq_nil_iff.mpr fun c hc => ?_
        obtain ⟨x, hx, rfl⟩ := List.mem_map.mp hc
        exact if_neg fun z => hn2.1 (by rw [e]; have z : x = t := z; rw [← z]; exact hx)
      have hf : (fun c : α × β => if c.1 = t then some c.2 else none) (s, g s) = some (g s) := if_pos e
      rw [List.filterMap_cons_some (f := fun c : α × β => if c.1 = t then some c.2 else none) hf, this, e]
    · have hf : (fun c : α × β => if c.1 = t then some c.2 else none) (s, g s) = none := if_neg e
      rw [List.filterMap_cons_none (f := fun c : α × β => if c.1 = t then some c.2 else none) hf]
      rcases List.mem_cons.mp h with q | q
      · exact absurd q.symm e
      · exact ih hn2.2 q
/-! ### far as the crow flies -/
structure Met (A : Mx) : Prop where
  sym : Sym A
  self : ∀ i, A i i = 0
  tri : ∀ i j k, A i k ≤ A i j + A j k
  lo : ∀ i j, 0 ≤ A i j
theorem Met.sided {f : Int} (s : Nat → Bool) (hf : 0 ≤ f) : Met (sidedM f s) := ⟨sided_sym f s, fun i => by unfold sidedM; rw [kof_self, Int.mul_zero], fun i j k => by
  unfold sidedM
  rw [← Int.mul_add]
  exact Int.mul_le_mul_of_nonneg_left (kof_tri s i j k) hf, fun i j => Int.mul_nonneg hf (kof_range s i j).1⟩
theorem sided_hi {f : Int} (s : Nat → Bool) (hf : 0 ≤ f) (i j : Nat) : sidedM f s i j ≤ 2 * f := by
  unfold sidedM
  have := Int.mul_le_mul_of_nonneg_left (kof_range s i j).2.1 hf
  omega
theorem Met.ends {f D : Int} {s : Nat → Bool} {w : Nat → Int} (hf : 0 ≤ f) (hD : 0 ≤ D) (hw : ∀ p, 0 ≤ w p) : Met (endsM f s D w) := by
  have m := Met.sided s hf
  have tri : ∀ i j k, wM w i k ≤ wM w i j + wM w j k := fun i j k => by
    have := hw i
    have := hw j
    have := hw k
    unfold wM
    by_cases h1 : i = k
    · rw [if_pos h1]
      split <;> split <;> omega
    · rw [if_neg h1]
      by_cases h2 : i = j
      · rw [if_pos h2, if_neg (by omega)]
        subst h2
        omega
      · rw [if_neg h2]
        by_cases h3 : j = k
        · rw [if_pos h3]
          subst h3
          omega
        · rw [if_neg h3]
          omega
  have lo : ∀ i j, 0 ≤ wM w i j := fun i j => by
    have := hw i
    have := hw j
    unfold wM
    split <;> omega
  refine ⟨ends_sym f s D w, fun i => by unfold endsM; rw [kof_self, wM_self]; omega, fun i j k => ?_, fun i j => ?_⟩
  · have h1 := m.tri i j k
    have h2 := Int.mul_le_mul_of_nonneg_left (tri i j k) hD
    rw [Int.mul_add] at h2
    unfold sidedM at h1
    unfold endsM
    omega
  · have h1 := m.lo i j
    have h2 := Int.mul_nonneg hD (lo i j)
    unfold sidedM at h1
    unfold endsM
    omega
theorem wM_hi {w : Nat → Int} {b : Int} (h0 : ∀ p, 0 ≤ w p) (h : ∀ p, w p ≤ b) (i j : Nat) : 0 ≤ wM w i j ∧ wM w i j ≤ 2 * b := by
  have := h0 i
  have := h0 j
  have := h i
  have := h j
  unfold wM
  split <;> omega
/-! ### two tables hung together -/
def skipN (o k : Nat) : Nat := if k < o then k else k + 1
theorem there_lo {m o : Nat} (h : m ≤ o) : (List.range m).filter (fun x => !decide (x = o)) = List.range m := List.filter_eq_self.mpr fun x hx => by
  have := List.mem_range.mp hx
  have : decide (x = o) = false := decide_eq_false (by omega)
  rw [this]
  rfl
theorem there_skip {o : Nat} : ∀ {m : Nat}, o < m → (List.range m).filter (fun x => !decide (x = o)) = (List.range (m - 1)).map (skipN o)
  | 0, h => absurd h (by omega)
  | m + 1, h => by
    rw [List.range_succ, List.filter_append]
    by_cases e : o = m
    · rw [there_lo (by omega)]
      have : decide (m = o) = true := decide_eq_true e.symm
      simp only [List.filter_cons, this, List.filter_nil]
      rw [show m + 1 - 1 = m from rfl]
      simp only [Bool.not_true, Bool.false_eq_true, if_false, List.append_nil]
      refine (List.map_id _).symm.trans (List.map_congr_left fun x hx => ?_)
      have := List.mem_range.mp hx
      exact (if_pos (by omega)).symm
    · rw [there_skip (show o < m by omega)]
      have : decide (m = o) = false := decide_eq_false (Ne.symm e)
      obtain ⟨m, rfl⟩ : ∃ q, m = q + 1 := ⟨m - 1, by omega⟩
      rw [show m + 1 + 1 - 1 = m + 1 from rfl, show m + 1 - 1 = m from rfl, List.range_succ, List.map_append]
      congr 1
      simp only [List.filter_cons, this, List.filter_nil, Bool.not_false, if_true, List.map_cons, List.map_nil]
      rw [show skipN o m = m + 1 from if_neg (by omega)]
def phiN (n p i : Nat) : Nat := if i < n then i else p
def psiN (n o i : Nat) : Nat := if i < n then o else skipN o (i - n)
def hungM (A B : Mx) (n p o : Nat) : Mx := fun i j => A (phiN n p i) (phiN n p j) + B (psiN n o i) (psiN n o j)
theorem Met.hung {A B : Mx} (hA : Met A) (hB : Met B) (n p o : Nat) : Met (hungM A B n p o) := ⟨fun i j => by unfold hungM; rw [hA.sym, hB.sym], fun i => by unfold hungM; rw [hA.self, hB.self]; rfl, fun i j k => by
  have h1 := hA.tri (phiN n p i) (phiN n p j) (phiN n p k)
  have h2 := hB.tri (psiN n o i) (psiN n o j) (psiN n o k)
  unfold hungM
  omega, fun i j => by
  have h1 := hA.lo (phiN n p i) (phiN n p j)
  have h2 := hB.lo (psiN n o i) (psiN n o j)
  unfold hungM
  omega⟩
def chiN (n p o k : Nat) : Nat := if k = o then p else if k < o then n + k else n + (k - 1)
theorem bare_hung {A B : Mx} {n m p o : Nat} (hA : Met A) (hB : Met B) (bA : Bare n A) (bB : Bare m B) (hp : p < n) (ho : o < m) : Bare (n + (m - 1)) (hungM A B n p o) := by
  intro S hS hN
  by_cases h : (∃ a, a < n ∧ S a) ∧ ∃ c, c < n ∧ ¬ S c
  · obtain ⟨a, b, c, e, la, lb, lc, le, sa, sb, nc, ne, q⟩ := bA S h.1 h.2
    refine ⟨a, b, c, e, by omega, by omega, by omega, by omega, sa, sb, nc, ne, ?_⟩
    unfold quad hungM phiN psiN at *
    simp only [la, lb, lc, le, if_true, hB.self]
    omega
  · have same : ∀ a, a < n → (S a ↔ S p) := fun a ha => by
      by_cases hp' : S p
      · exact ⟨fun _ => hp', fun _ => Classical.byContradiction fun z => h ⟨⟨p, hp, hp'⟩, a, ha, z⟩⟩
      · exact ⟨fun z => absurd ⟨⟨a, ha, z⟩, p, hp, hp'⟩ h, fun z => absurd z hp'⟩
    have back : ∀ x, x < n + (m - 1) → ∃ k, k < m ∧ (S x ↔ S (chiN n p o k)) := fun x hx => by
      by_cases hxn : x < n
      · exact ⟨o, ho, by rw [show chiN n p o o = p from if_pos rfl]; exact same x hxn⟩
      · by_cases hxo : x - n < o
        · refine ⟨x - n, by omega, ?_⟩
          have : chiN n p o (x - n) = x := by
            unfold chiN
            rw [if_neg (by omega), if_pos hxo]
            omega
          rw [this]
        · refine ⟨x - n + 1, by omega, ?_⟩
          have : chiN n p o (x - n + 1) = x := by
            unfold chiN
            rw [if_neg (by omega), if_neg (by omega)]
            omega
          rw [this]
    obtain ⟨x, hx, sx⟩ := hS
    obtain ⟨y, hy, ny⟩ := hN
    obtain ⟨k, hk, ek⟩ := back x hx
    obtain ⟨k', hk', ek'⟩ := back y hy
    obtain ⟨a, b, c, e, la, lb, lc, le, sa, sb, nc, ne, q⟩ := bB (fun k => S (chiN n p o k)) ⟨k, hk, ek.mp sx⟩ ⟨k', hk', fun z => ny (ek'.mpr z)⟩
    have lt : ∀ k, k < m → chiN n p o k < n + (m - 1) := fun k hk => by
      unfold chiN
      split
      · omega
      · split <;> omega
    have ph : ∀ k, k < m → phiN n p (chiN n p o k) = p := fun k hk => by
      unfold phiN chiN
      by_cases e1 : k = o
      · rw [if_pos e1, if_pos hp]
      · rw [if_neg e1]
        by_cases e2 : k < o
        · rw [if_pos e2, if_neg (by omega)]
        · rw [if_neg e2, if_neg (by omega)]
    have ps : ∀ k, k < m → psiN n o (chiN n p o k) = k := fun k hk => by
      unfold psiN chiN skipN
      by_cases e1 : k = o
      · rw [if_pos e1, if_pos hp, e1]
      · rw [if_neg e1]
        by_cases e2 : k < o
        · rw [if_pos e2, if_neg (by omega), if_pos (by omega)]
          omega
        · rw [if_neg e2, if_neg (by omega), if_neg (by omega)]
          omega
    refine ⟨_, _, _, _, lt a la, lt b lb, lt c lc, lt e le, sa, sb, nc, ne, ?_⟩
    unfold quad hungM at *
    simp only [ph _ la, ph _ lb, ph _ lc, ph _ le, ps _ la, ps _ lb, ps _ lc, ps _ le, hA.self]
    omega
end K57
end

section
set_option Elab.async false
set_option linter.all false
set_option maxRecDepth 100000
set_option maxHeartbeats 4000000
namespace K57
open PySem PySem.Spec PyProof.Rows L2

/-! ### the text by places -/
def top (i : Nat) : Stmt := PySem.Challenge.pw_farcuts_k57_whole_rests_that_none_parts.main.body.getD i (.Pass ⟨0, 0, 0, 0⟩)
abbrev sCommon : Stmt := top 6
abbrev sFraction : Stmt := top 7
abbrev sPlus : Stmt := top 8
abbrev sMinus : Stmt := top 9
abbrev sBelow : Stmt := top 10
abbrev sShort : Stmt := top 12
abbrev sPart : Stmt := top 13
abbrev sAdded : Stmt := top 14
abbrev sHung : Stmt := top 15
abbrev sTable : Stmt := top 18
abbrev sNeed : Stmt := top 20
abbrev sWholes : Stmt := top 21
abbrev sPairs : Stmt := top 22
abbrev sLeast : Stmt := top 23
abbrev sBeside : Stmt := top 24
abbrev sSplits : Stmt := top 25
abbrev sRest : Stmt := top 26
abbrev sStir : Stmt := top 28
abbrev sDeck : Stmt := top 29
abbrev sTake : Stmt := top 30
abbrev sLFrac : Stmt := top 31
abbrev sLTable : Stmt := top 32
abbrev sSided : Stmt := top 33
abbrev sBare : Stmt := top 34
abbrev sEven : Stmt := top 35
abbrev sEnds : Stmt := top 36
abbrev sLaw : Stmt := top 37

/-! ### heaps of which some places are hidden -/
def hid (l : List Addr) (H : Hp) : Hp := fun b => if b ∈ l then none else H b
theorem hid_out {l : List Addr} {H : Hp} {b : Addr} (h : b ∉ l) : hid l H b = H b := by unfold hid; rw [if_neg h]
theorem hid_in {l : List Addr} {H : Hp} {b : Addr} (h : b ∈ l) : hid l H b = none := by unfold hid; rw [if_pos h]
theorem hid_some {l : List Addr} {H : Hp} {b : Addr} {o : HO} (h : hid l H b = some o) : b ∉ l ∧ H b = some o := by
  unfold hid at h
  split at h
  · cases h
  · exact ⟨‹_›, h⟩
theorem hid_sub {l : List Addr} {H : Hp} : Same (hid l H) H := fun b o h => (hid_some h).2
theorem hid_mono {l : List Addr} {H H' : Hp} (e : Same H H') : Same (hid l H) (hid l H') := fun b o h => by
  obtain ⟨h1, h2⟩ := hid_some h
  rw [hid_out h1]
  exact e b o h2
theorem hid_less {l m : List Addr} {H : Hp} (h : ∀ b ∈ m, b ∈ l) : Same (hid l H) (hid m H) := fun b o q => by
  obtain ⟨h1, h2⟩ := hid_some q
  rw [hid_out fun z => h1 (h b z)]
  exact h2
theorem hid_tail {l : List Addr} {H : Hp} {a : Addr} : Same (hid (a :: l) H) (hid l H) := hid_less fun _ h => List.mem_cons_of_mem _ h
theorem hid_nil {H : Hp} : hid [] H = H := by
  funext b
  unfold hid
  rw [if_neg (by simp)]
/-- a new place is hidden too -/
theorem hid_push {l : List Addr} {H H' : Hp} {a : Addr} (e : Same H H') (n : H a = none) : Same (hid l H) (hid (a :: l) H') := fun b o h => by
  obtain ⟨h1, h2⟩ := hid_some h
  have hb : b ∉ a :: l := fun z => by
    rcases List.mem_cons.mp z with q | q
    · rw [q, n] at h2; cases h2
    · exact h1 q
  rw [hid_out hb]
  exact e b o h2
theorem hid_push2 {l : List Addr} {H H' : Hp} {a b : Addr} (e : Same H H') (n : H a = none) (n2 : H b = none) : Same (hid l H) (hid (b :: a :: l) H') := fun c o h => by
  obtain ⟨h1, h2⟩ := hid_some h
  have hb : c ∉ b :: a :: l := fun z => by
    rcases List.mem_cons.mp z with q | z
    · rw [q, n2] at h2; cases h2
    · rcases List.mem_cons.mp z with q | q
      · rw [q, n] at h2; cases h2
      · exact h1 q
  rw [hid_out hb]
  exact e c o h2
theorem hid_write {l : List Addr} {H : Hp} {a : Addr} {o : HO} (h : a ∈ l) : hid l (upd H a o) = hid l H := by
  funext b
  unfold hid
  split
  · rfl
  · rename_i hb
    rw [upd_ne fun z => hb (by rw [z]; exact h)]
theorem hid_cons {l : List Addr} {H : Hp} {a : Addr} : hid (a :: l) H = hid l (hid [a] H) := by
  funext b
  unfold hid
  by_cases h1 : b = a <;> by_cases h2 : b ∈ l <;> simp [h1, h2]
/-- the hidden places stand -/
def Live (l : List Addr) (H : Hp) : Prop := ∀ b ∈ l, H b ≠ none
theorem Live.same {l : List Addr} {H H' : Hp} (h : Live l H) (e : Same H H') : Live l H' := fun b hb q => by
  cases z : H b with
  | none => exact h b hb z
  | some o => rw [e b o z] at q; cases q
theorem Live.nil {H : Hp} : Live [] H := fun _ h => by simp at h
theorem Live.cons {l : List Addr} {H : Hp} {a : Addr} {o : HO} (h : Live l H) (e : H a = some o) : Live (a :: l) H := fun b hb => by
  rcases List.mem_cons.mp hb with q | q
  · rw [q, e]; simp
  · exact h b q
theorem Live.out {l : List Addr} {H : Hp} {a : Addr} (h : Live l H) (e : H a = none) : a ∉ l := fun z => h a z e
theorem same_new {H : Hp} {p : Addr} {o : HO} (h : H p = none) : Same H (upd H p o) := fun b x e => by
  rw [upd_ne (ne_of_none e h)]
  exact e
theorem same_write {H0 H : Hp} {p : Addr} {o : HO} (e : Same H0 H) (h : H0 p = none) : Same H0 (upd H p o) := fun b x q => by
  rw [upd_ne (ne_of_none q h)]
  exact e b x q
theorem Same.tup {K : PySem.W.Frag} {H H' : Hp} {a : Addr} {xs : List V} (e : Same H H') (h : SqT K H a xs) : SqT K H' a xs := by
  rcases h with (h | ⟨o, h⟩) | h
  · exact .inl (.inl (e _ _ h))
  · exact .inl (.inr ⟨o, e _ _ h⟩)
  · exact .inr h

/-! ### kinds of values -/
/-- what it means that a value stands for a thing, in a heap -/
abbrev Rl (α : Type) := Hp → V → α → Prop
def Mono {α : Type} (R : Rl α) : Prop := ∀ H H' v a, Same H H' → R H v a → R H' v a
def IntV : Rl Int := fun _ v i => v = .int i
def NatV : Rl Nat := fun _ v n => v = .int (n : Int)
def LsV (_ : PySem.W.Frag) {α : Type} (R : Rl α) : Rl (List α) := fun H v l => ∃ a xs, v = .ref a ∧ H a = some (.lst xs) ∧ Paired (R H) xs l
section
variable (K : PySem.W.Frag) {α β : Type}
def FrV : Rl (Int × Int) := fun H v q => ∃ t, v = .ref t ∧ SqT K H t [.int q.1, .int q.2]
def PrV (R : Rl α) (S : Rl β) : Rl (α × β) := fun H v p => ∃ t x y, v = .ref t ∧ SqT K H t [x, y] ∧ R H x p.1 ∧ S H y p.2
end
section
variable {K : PySem.W.Frag} {α β : Type}
theorem mono_int : Mono IntV := fun _ _ _ _ _ h => h
theorem mono_nat : Mono NatV := fun _ _ _ _ _ h => h
theorem mono_fr : Mono (FrV K) := fun _ _ _ _ e ⟨t, h1, h2⟩ => ⟨t, h1, Same.tup e h2⟩
theorem mono_ls {R : Rl α} (m : Mono R) : Mono (LsV K R) := fun H H' _ _ e ⟨a, xs, h1, h2, h3⟩ => ⟨a, xs, h1, e _ _ h2, h3.mono fun x y z => m H H' x y e z⟩
theorem mono_pr {R : Rl α} {S : Rl β} (m : Mono R) (n : Mono S) : Mono (PrV K R S) := fun H H' _ _ e ⟨t, x, y, h1, h2, h3, h4⟩ => ⟨t, x, y, h1, Same.tup e h2, m H H' _ _ e h3, n H H' _ _ e h4⟩
theorem paired_get {F : V → α → Prop} : ∀ {xs : List V} {l : List α} {i : Nat} {a : α}, Paired F xs l → l[i]? = some a → ∃ x, xs[i]? = some x ∧ F x a
  | _, _, _, _, .nil, h => by simp at h
  | _, _, 0, _, .cons r _, h => by
    simp at h
    subst h
    exact ⟨_, rfl, r⟩
  | _, _, i + 1, _, .cons _ t, h => by
    simp at h
    obtain ⟨x, h1, h2⟩ := paired_get t h
    exact ⟨x, by simpa using h1, h2⟩
theorem paired_get' {F : V → α → Prop} : ∀ {xs : List V} {l : List α} {i : Nat} {x : V}, Paired F xs l → xs[i]? = some x → ∃ a, l[i]? = some a ∧ F x a
  | _, _, _, _, .nil, h => by simp at h
  | _, _, 0, _, .cons r _, h => by
    simp at h
    subst h
    exact ⟨_, rfl, r⟩
  | _, _, i + 1, _, .cons _ t, h => by
    simp at h
    obtain ⟨x, h1, h2⟩ := paired_get' t h
    exact ⟨x, by simpa using h1, h2⟩
theorem paired_int {xs : List V} {l : List Int} (h : Paired (IntV H) xs l) : xs = l.map V.int := by
  induction h with
  | nil => rfl
  | cons r _ ih => rw [List.map_cons, ← ih, show _ = V.int _ from r]
theorem paired_nat {xs : List V} {l : List Nat} (h : Paired (NatV H) xs l) : xs = l.map fun n : Nat => V.int (n : Int) := by
  induction h with
  | nil => rfl
  | cons r _ ih => rw [List.map_cons, ← ih, show _ = V.int _ from r]
theorem int_paired : ∀ (l : List Int), Paired (IntV H) (l.map V.int) l
  | [] => .nil
  | _ :: l => .cons rfl (int_paired l)
theorem nat_paired : ∀ (l : List Nat), Paired (NatV H) (l.map fun n : Nat => V.int (n : Int)) l
  | [] => .nil
  | _ :: l => .cons rfl (nat_paired l)
theorem paired_append {F : V → α → Prop} : ∀ {xs ys : List V} {l m : List α}, Paired F xs l → Paired F ys m → Paired F (xs ++ ys) (l ++ m)
  | _, _, _, _, .nil, h => h
  | _, _, _, _, .cons r t, h => .cons r (paired_append t h)
theorem paired_drop {F : V → α → Prop} : ∀ {xs : List V} {l : List α} (n : Nat), Paired F xs l → Paired F (xs.drop n) (l.drop n)
  | _, _, 0, h => h
  | _, _, _ + 1, .nil => .nil
  | _, _, n + 1, .cons _ t => paired_drop n t
theorem paired_set {F : V → α → Prop} {x : V} {a : α} (r : F x a) : ∀ {xs : List V} {l : List α} (n : Nat), Paired F xs l → Paired F (xs.set n x) (l.set n a)
  | _, _, _, .nil => .nil
  | _, _, 0, .cons _ t => .cons r t
  | _, _, n + 1, .cons q t => .cons q (paired_set r n t)
end
/-- numbers of any use are small -/
abbrev Sm (n : Nat) (i : Int) : Prop := i.natAbs < 2 ^ n
end K57
end

section
set_option Elab.async false
set_option linter.all false
set_option maxRecDepth 100000
set_option maxHeartbeats 4000000
namespace K57
open PySem PySem.Spec PyProof.Rows L2
/-! ### where the defs stand -/
structure Dn (K : PySem.W.Frag) (mg : Str → Option Value) (x : Str) (st : Stmt) (ps : List Str) (f : Addr) (fd : FuncData) : Prop where
  F : Fun K x x st f fd
  b : Binds K fd ps []
  g : mg x = some (.ref f)
structure Txt (K : PySem.W.Frag) (mg : Str → Option Value) (ad : Nat → Addr) (fd : Nat → FuncData) : Prop where
  d6 : Dn K mg "common_of" (top 6) ["one", "other"] (ad 6) (fd 6)
  d7 : Dn K mg "fraction" (top 7) ["top", "bottom"] (ad 7) (fd 7)
  d8 : Dn K mg "plus" (top 8) ["q", "r"] (ad 8) (fd 8)
  d9 : Dn K mg "minus" (top 9) ["q", "r"] (ad 9) (fd 9)
  d10 : Dn K mg "is_below" (top 10) ["q", "r"] (ad 10) (fd 10)
  d12 : Dn K mg "first_short" (top 12) ["table"] (ad 12) (fd 12)
  d13 : Dn K mg "part_of" (top 13) ["table", "points"] (ad 13) (fd 13)
  d14 : Dn K mg "added" (top 14) ["table", "other"] (ad 14) (fd 14)
  d15 : Dn K mg "hung_together" (top 15) ["table", "point", "other", "other_point"] (ad 15) (fd 15)
  d18 : Dn K mg "table_of" (top 18) ["n", "cuts"] (ad 18) (fd 18)
  d20 : Dn K mg "need_long" (top 20) ["table"] (ad 20) (fd 20)
  d21 : Dn K mg "in_wholes" (top 21) ["table"] (ad 21) (fd 21)
  d22 : Dn K mg "pairs_of" (top 22) ["points"] (ad 22) (fd 22)
  d23 : Dn K mg "least_over" (top 23) ["rows", "side", "others"] (ad 23) (fd 23)
  d24 : Dn K mg "beside_of" (top 24) ["side", "n"] (ad 24) (fd 24)
  d25 : Dn K mg "splits_of" (top 25) ["table"] (ad 25) (fd 25)
  d26 : Dn K mg "rest_table" (top 26) ["table"] (ad 26) (fd 26)
  d28 : Dn K mg "_law_stir" (top 28) ["cell", "k"] (ad 28) (fd 28)
  d29 : Dn K mg "_law_deck" (top 29) ["cell"] (ad 29) (fd 29)
  d30 : Dn K mg "_law_take" (top 30) ["deck", "many"] (ad 30) (fd 30)
  d31 : Dn K mg "_law_fraction" (top 31) ["top", "bottom"] (ad 31) (fd 31)
  d32 : Dn K mg "_law_table" (top 32) ["rows", "bottom"] (ad 32) (fd 32)
  d33 : Dn K mg "_law_sided" (top 33) ["deck"] (ad 33) (fd 33)
  d34 : Dn K mg "_law_is_bare" (top 34) ["table"] (ad 34) (fd 34)
  d35 : Dn K mg "_law_is_even" (top 35) ["n", "far"] (ad 35) (fd 35)
  d36 : Dn K mg "_law_with_ends" (top 36) ["deck", "table"] (ad 36) (fd 36)
  d37 : Dn K mg "law" (top 37) ["script"] (ad 37) (fd 37)
  abs : mg "abs" = none
  len : mg "len" = none
  range : mg "range" = none
  set : mg "set" = none
  zip : mg "zip" = none
  max : mg "max" = none
  sorted : mg "sorted" = none
  int : mg "int" = none
  list : mg "list" = none
  nought : ∃ t, mg "NOUGHT" = some (.ref t) ∧ ∀ H, SqT K H t [.int 0, .int 1]
section
variable {P : Program} {w : World} {K : PySem.W.Frag} {mg : Str → Option Value} {base : Heap} {ad : Nat → Addr} {fd : Nat → FuncData}

/-! ### common_of -/
def spCommon : Sp := fun vs H Q _ => ∃ i j : Int, vs = [.int i, .int j] ∧ ∀ H', Same H H' → Q (.int (Int.gcd i j : Int)) H'
theorem sc6 : FnScope ["one", "other"] ["one", "other"] (defScope (top 6)) := ⟨rfl, rfl, rfl, by decide +kernel, rfl, by decide +kernel, by decide +kernel⟩
theorem gcd_zero_abs (i : Int) : (if i < 0 then -i else i) = (Int.gcd i 0 : Int) := by
  rw [Int.gcd_zero]
  split <;> omega
theorem ok6 (T : Txt K mg ad fd) : FnOk P w K mg base CX0 1 (ad 6) (fd 6) ["one", "other"] spCommon := by
  refine T.d6.F.ok sc6 (fun vs H Q E h => ?_) (fun cdv A outer s H vs Q E hr h => ?_)
  · obtain ⟨i, j, rfl, _⟩ := h
    rfl
  · obtain ⟨i, j, rfl, q⟩ := h
    refine ⟨_, pss_cons (ps_while PassesOwn.never (pt_cmpR op_ne (pv 1) pe_int (nomark _)) (pss_one (ps_par (i := 0) (j := 1) (by rfl) sc6.nd rfl rfl (by decide) rfl rfl (pa_cons (pv 1) (pa_cons (pe_op op_modN (pv 0) (pv 1)) pa_nil)) (by rfl))))
      (pss_one (ps_ret (pe_callB call_abs (by rfl) T.abs boot_abs (pa_cons (pv 0) pa_nil)))), ?_⟩
    refine ⟨fun m σ H2 => ∃ x y : Int, σ = [some (.int x), some (.int y)] ∧ Int.gcd x y = Int.gcd i j ∧ m = y.natAbs ∧ H2 = H, ⟨_, i, j, rfl, rfl, rfl, rfl⟩, ?_⟩
    rintro m σ H2 ⟨x, y, rfl, e, rfl, rfl⟩
    refine ⟨.int y, rfl, rfl, _, rfl, ?_⟩
    by_cases hy : y = 0
    · subst hy
      rw [show (!decide (V.int 0 = V.int 0)) = false by decide]
      refine iteF ?_
      refine ⟨.int x, rfl, x, rfl, ?_⟩
      rw [gcd_zero_abs, e]
      exact q _ (Same.refl _)
    · rw [show (!decide (V.int y = V.int 0)) = true by
        rw [decide_eq_false]
        · rfl
        · intro z
          exact hy (V.int.inj z)]
      refine iteT ?_
      refine ⟨fun σ' H' => ∃ x' y' : Int, σ' = [some (.int x'), some (.int y')] ∧ Int.gcd x' y' = Int.gcd i j ∧ y'.natAbs < y.natAbs ∧ H' = H2, fun σ' H' hn => ?_, ?_⟩
      · obtain ⟨x', y', e1, e2, e3, e4⟩ := hn
        exact ⟨_, e3, x', y', e1, e2, rfl, e4⟩
      · refine ⟨.int y, rfl, .int x, rfl, .int y, rfl, x, y, rfl, rfl, hy, ?_⟩
        exact ⟨_, _, rfl, y, x.fmod y, rfl, (gcd_turn x y).trans e, fmod_small hy, rfl⟩

/-! ### fraction -/
def spFraction (K : PySem.W.Frag) : Sp := fun vs H Q _ => ∃ (l : List Addr) (i j : Int), vs = [.int i, .int j] ∧ Live l H ∧ 0 < j ∧ Sm 8000 j ∧ ∀ v H', Same H H' → FrV K (hid l H') v (fr i j) → Q v H'
theorem sc7 : FnScope ["top", "bottom", "by"] ["top", "bottom"] (defScope (top 7)) := ⟨rfl, rfl, rfl, by decide +kernel, rfl, by decide +kernel, by decide +kernel⟩
theorem gcd_le {i j : Int} (h : 0 < j) : (Int.gcd i j : Int).natAbs ≤ j.natAbs := by
  have h1 : (Int.gcd i j : Int) ∣ j := Int.gcd_dvd_right ..
  have := Int.le_of_dvd h h1
  omega
theorem ok7 (T : Txt K mg ad fd) : FnOk P w K mg base CX0 2 (ad 7) (fd 7) ["top", "bottom"] (spFraction K) := by
  have G6 : FnOk P w K mg base CX0 1 (ad 6) (fd 6) ["one", "other"] spCommon := ok6 T
  refine T.d7.F.ok sc7 (fun vs H Q E h => ?_) (fun cdv A outer s H vs Q E hr h => ?_)
  · obtain ⟨l, i, j, rfl, _⟩ := h
    rfl
  · obtain ⟨l, i, j, rfl, lv, h0, hj, q⟩ := h
    refine ⟨_, pss_cons (ps_if (pt_cmpR op_eq (pv 1) pe_int (nomark _)) (pss_one ps_never) pss_nil)
      (pss_cons (ps_set (i := 2) sc7.nd rfl (.inl rfl) (pe_call G6 hr (by rfl) T.d6.g T.d6.F.kp T.d6.b .nil pass0 (pa_cons (pv 0) (pa_cons (pv 1) pa_nil))))
      (pss_cons (ps_if (pt_cmpR op_lt (pv 1) pe_int (nomark _)) (pss_one ps_never) pss_nil)
      (pss_one (ps_ret (pe_tup (pa_cons (pe_op op_fdivW (pv 0) (pv 2)) (pa_cons (pe_op op_fdivW (pv 1) (pv 2)) pa_nil))))))), ?_⟩
    have hd : CDivW i (Int.gcd i j : Int) := wide_div (gcd_pos h0) (Nat.lt_of_le_of_lt (gcd_le h0) hj) (by decide) (by decide)
    have hd2 : CDivW j (Int.gcd i j : Int) := hd
    refine ⟨.int j, rfl, rfl, _, rfl, ?_⟩
    rw [show decide (V.int j = V.int 0) = false from decide_eq_false fun z => by have := V.int.inj z; omega]
    refine iteF ?_
    refine ⟨.int i, rfl, .int j, rfl, i, j, rfl, fun H1 sm => ?_⟩
    refine ⟨.int j, rfl, _, _, rfl, rfl, _, rfl, ?_⟩
    rw [show decide (j < 0) = false from decide_eq_false (by omega)]
    refine iteF ?_
    refine ⟨.int i, rfl, _, rfl, _, _, rfl, rfl, hd, .int j, rfl, _, rfl, _, _, rfl, rfl, hd2, by show 2 ≤ sizeLine; decide, fun p hp => ?_⟩
    refine q _ _ (sm.trans (same_new hp)) ⟨p, rfl, .of ?_⟩
    rw [hid_out (lv.out (sm.free hp)), upd_same]
    rfl
end
end K57
end

section
set_option Elab.async false
set_option linter.all false
set_option maxRecDepth 100000
set_option maxHeartbeats 4000000
namespace K57
open PySem PySem.Spec PyProof.Rows L2
section
variable {P : Program} {w : World} {K : PySem.W.Frag} {mg : Str → Option Value} {base : Heap} {ad : Nat → Addr} {fd : Nat → FuncData}
/-! ### q[0], xs[i] -/
/-- a fraction of small numbers -/
def FrS (q : Int × Int) : Prop := 0 < q.2 ∧ Sm 2000 q.1 ∧ Sm 2000 q.2
theorem mulS {i j : Int} (h1 : Sm 2000 i) (h2 : Sm 2000 j) : CMulW i j := wide_mul h1 h2 (by decide) (by decide) (by decide)
def spBin (K : PySem.W.Frag) (f : Int × Int → Int × Int → Int × Int) : Sp := fun vs H Q _ => ∃ (l : List Addr) (u v : V) (q r : Int × Int), vs = [u, v] ∧ Live l H ∧ FrV K (hid l H) u q ∧ FrV K (hid l H) v r ∧ FrS q ∧ FrS r ∧
  ∀ v H', Same H H' → FrV K (hid l H') v (f q r) → Q v H'
theorem sc8 : FnScope ["q", "r"] ["q", "r"] (defScope (top 8)) := ⟨rfl, rfl, rfl, by decide +kernel, rfl, by decide +kernel, by decide +kernel⟩
theorem sc9 : FnScope ["q", "r"] ["q", "r"] (defScope (top 9)) := ⟨rfl, rfl, rfl, by decide +kernel, rfl, by decide +kernel, by decide +kernel⟩
theorem sc10 : FnScope ["q", "r"] ["q", "r"] (defScope (top 10)) := ⟨rfl, rfl, rfl, by decide +kernel, rfl, by decide +kernel, by decide +kernel⟩
theorem sm_mul {i j : Int} (h1 : Sm 2000 i) (h2 : Sm 2000 j) : Sm 8000 (i * j) := Nat.lt_of_lt_of_le (wide_lt (a := 2000) (b := 2000) h1 h2) (Nat.pow_le_pow_right (by decide) (show 2000 + 2000 ≤ 8000 by decide))
theorem ok8 (T : Txt K mg ad fd) : FnOk P w K mg base CX0 3 (ad 8) (fd 8) ["q", "r"] (spBin K plusF) := by
  have G7 : FnOk P w K mg base CX0 2 (ad 7) (fd 7) ["top", "bottom"] (spFraction K) := ok7 T
  refine T.d8.F.ok sc8 (fun vs H Q E h => ?_) (fun cdv A outer s H vs Q E hr h => ?_)
  · obtain ⟨l, u, v, q, r, rfl, _⟩ := h
    rfl
  · obtain ⟨l, u, v, q, r, rfl, lv, ⟨t1, rfl, k1⟩, ⟨t2, rfl, k2⟩, ⟨q0, q1, q2⟩, ⟨r0, r1, r2⟩, k⟩ := h
    have m1 := Same.tup hid_sub k1
    have m2 := Same.tup hid_sub k2
    refine ⟨_, pss_one (ps_ret (pe_call G7 hr (by rfl) T.d7.g T.d7.F.kp T.d7.b .nil pass0 (pa_cons (pe_op op_add (pe_op op_mulW (pe_ix ix_tup (pv 0) pe_int (fun _ _ => rfl)) (pe_ix ix_tup (pv 1) pe_int (fun _ _ => rfl))) (pe_op op_mulW (pe_ix ix_tup (pv 1) pe_int (fun _ _ => rfl)) (pe_ix ix_tup (pv 0) pe_int (fun _ _ => rfl))))
      (pa_cons (pe_op op_mulW (pe_ix ix_tup (pv 0) pe_int (fun _ _ => rfl)) (pe_ix ix_tup (pv 1) pe_int (fun _ _ => rfl))) pa_nil)))), ?_⟩
    refine ⟨_, rfl, ⟨_, _, 0, _, rfl, rfl, m1, rfl, _, rfl, ⟨_, _, 1, _, rfl, rfl, m2, rfl, q.1, r.2, rfl, rfl, mulS q1 r2, _, rfl, ⟨_, _, 0, _, rfl, rfl, m2, rfl, _, rfl, ⟨_, _, 1, _, rfl, rfl, m1, rfl, r.1, q.2, rfl, rfl, mulS r1 q2, _, _, rfl, rfl, ?_⟩⟩⟩⟩⟩
    refine ⟨_, rfl, ⟨_, _, 1, _, rfl, rfl, m1, rfl, _, rfl, ⟨_, _, 1, _, rfl, rfl, m2, rfl, q.2, r.2, rfl, rfl, mulS q2 r2, ?_⟩⟩⟩
    exact ⟨l, _, _, rfl, lv, Int.mul_pos q0 r0, sm_mul q2 r2, k⟩
theorem ok9 (T : Txt K mg ad fd) : FnOk P w K mg base CX0 3 (ad 9) (fd 9) ["q", "r"] (spBin K minusF) := by
  have G7 : FnOk P w K mg base CX0 2 (ad 7) (fd 7) ["top", "bottom"] (spFraction K) := ok7 T
  refine T.d9.F.ok sc9 (fun vs H Q E h => ?_) (fun cdv A outer s H vs Q E hr h => ?_)
  · obtain ⟨l, u, v, q, r, rfl, _⟩ := h
    rfl
  · obtain ⟨l, u, v, q, r, rfl, lv, ⟨t1, rfl, k1⟩, ⟨t2, rfl, k2⟩, ⟨q0, q1, q2⟩, ⟨r0, r1, r2⟩, k⟩ := h
    have m1 := Same.tup hid_sub k1
    have m2 := Same.tup hid_sub k2
    refine ⟨_, pss_one (ps_ret (pe_call G7 hr (by rfl) T.d7.g T.d7.F.kp T.d7.b .nil pass0 (pa_cons (pe_op op_sub (pe_op op_mulW (pe_ix ix_tup (pv 0) pe_int (fun _ _ => rfl)) (pe_ix ix_tup (pv 1) pe_int (fun _ _ => rfl))) (pe_op op_mulW (pe_ix ix_tup (pv 1) pe_int (fun _ _ => rfl)) (pe_ix ix_tup (pv 0) pe_int (fun _ _ => rfl))))
      (pa_cons (pe_op op_mulW (pe_ix ix_tup (pv 0) pe_int (fun _ _ => rfl)) (pe_ix ix_tup (pv 1) pe_int (fun _ _ => rfl))) pa_nil)))), ?_⟩
    refine ⟨_, rfl, ⟨_, _, 0, _, rfl, rfl, m1, rfl, _, rfl, ⟨_, _, 1, _, rfl, rfl, m2, rfl, q.1, r.2, rfl, rfl, mulS q1 r2, _, rfl, ⟨_, _, 0, _, rfl, rfl, m2, rfl, _, rfl, ⟨_, _, 1, _, rfl, rfl, m1, rfl, r.1, q.2, rfl, rfl, mulS r1 q2, _, _, rfl, rfl, ?_⟩⟩⟩⟩⟩
    refine ⟨_, rfl, ⟨_, _, 1, _, rfl, rfl, m1, rfl, _, rfl, ⟨_, _, 1, _, rfl, rfl, m2, rfl, q.2, r.2, rfl, rfl, mulS q2 r2, ?_⟩⟩⟩
    exact ⟨l, _, _, rfl, lv, Int.mul_pos q0 r0, sm_mul q2 r2, k⟩
/-! ### is_below -/
def spBelow (K : PySem.W.Frag) : Sp := fun vs H Q _ => ∃ (u v : V) (q r : Int × Int), vs = [u, v] ∧ FrV K H u q ∧ FrV K H v r ∧ FrS q ∧ FrS r ∧ Q (.bl (decide (q.1 * r.2 < r.1 * q.2))) H
theorem ok10 (T : Txt K mg ad fd) : FnOk P w K mg base CX0 1 (ad 10) (fd 10) ["q", "r"] (spBelow K) := by
  refine T.d10.F.ok sc10 (fun vs H Q E h => ?_) (fun cdv A outer s H vs Q E hr h => ?_)
  · obtain ⟨u, v, q, r, rfl, _⟩ := h
    rfl
  · obtain ⟨u, v, q, r, rfl, ⟨t1, rfl, m1⟩, ⟨t2, rfl, m2⟩, ⟨q0, q1, q2⟩, ⟨r0, r1, r2⟩, k⟩ := h
    refine ⟨_, pss_one (ps_ret (pe_cmpR op_lt (pe_op op_mulW (pe_ix ix_tup (pv 0) pe_int (fun _ _ => rfl)) (pe_ix ix_tup (pv 1) pe_int (fun _ _ => rfl))) (pe_op op_mulW (pe_ix ix_tup (pv 1) pe_int (fun _ _ => rfl)) (pe_ix ix_tup (pv 0) pe_int (fun _ _ => rfl))) (nomark _))), ?_⟩
    exact ⟨_, rfl, ⟨_, _, 0, _, rfl, rfl, m1, rfl, _, rfl, ⟨_, _, 1, _, rfl, rfl, m2, rfl, q.1, r.2, rfl, rfl, mulS q1 r2, _, rfl, ⟨_, _, 0, _, rfl, rfl, m2, rfl, _, rfl, ⟨_, _, 1, _, rfl, rfl, m1, rfl, r.1, q.2, rfl, rfl, mulS r1 q2, _, _, rfl, rfl, k⟩⟩⟩⟩⟩
end
end K57
end

section
set_option Elab.async false
set_option linter.all false
set_option maxRecDepth 100000
set_option maxHeartbeats 4000000
namespace K57
open PySem PySem.Spec PyProof.Rows L2
/-! ### comprehensions that make a list of things -/
/-- the first n results -/
def fm {β : Type} (rs : Nat → Option β) (n : Nat) : List β := (List.range n).filterMap rs
theorem fm_succ {β : Type} (rs : Nat → Option β) (n : Nat) : fm rs (n + 1) = fm rs n ++ (match rs n with | some b => [b] | none => []) := by
  unfold fm
  rw [List.range_succ, List.filterMap_append]
  cases h : rs n <;> simp [h]
theorem fm_len {β : Type} (rs : Nat → Option β) (n : Nat) : (fm rs n).length ≤ n := by
  unfold fm
  refine Nat.le_trans (List.length_filterMap_le ..) (by simp)
theorem fm_map {β : Type} (f : Nat → β) (n : Nat) : fm (fun i => some (f i)) n = (List.range n).map f := by
  unfold fm
  rw [List.filterMap_eq_map']
/-- a comprehension without tests, by a state of one's own -/
theorem lc_itY {J : It} {n : Nat} {G : Hp → Prop} {Y : Nat → Hp → V → Hp → Prop} (wk : Walk J n G Y) {g : TG} {te : TE} {vs : List Nat} {σ : L2.St} {H1 : Hp} {D : Addr} {Qd : Hp → Prop} (Pv : Nat → Hp → Prop) (h0 : Pv 0 (upd H1 D (.lst []))) (hG : ∀ i H, i ≤ n → Pv i H → G H)
    (hs : ∀ i x H H', i < n → Pv i H → Y i H x H' → g x (wipe σ vs) H' fun σ2 H2 => wipe σ2 vs = wipe σ vs ∧ te σ2 H2 fun y H4 => ∃ acc, H4 D = some (.lst acc) ∧ acc.length < sizeLine ∧ Pv (i + 1) (upd H4 D (.lst (acc ++ [y])))) (hd : ∀ H, Pv n H → Qd H) :
    ∃ W : Nat → Nat → Hp → Prop, (∃ m, W 0 m (upd H1 D (.lst []))) ∧ ∀ i m H, W i m H →
      (J.stop i H ∧ Qd H) ∨ (J.go i H ∧ ∃ Nx : Hp → Prop, (∀ H', Nx H' → ∃ m', m' < m ∧ W (i + 1) m' H') ∧ ∀ x H', J.yld i H x H' → g x (wipe σ vs) H' fun σ2 H2 => wipe σ2 vs = wipe σ vs ∧ tYes σ2 H2 fun b H3 =>
        if b = true then te σ2 H3 fun y H4 => ∃ acc, H4 D = some (.lst acc) ∧ acc.length < sizeLine ∧ Nx (upd H4 D (.lst (acc ++ [y]))) else Nx H3) :=
  lc_it wk Pv h0 hG (fun i x H H' hi p y => hs i x H H' hi p y) hd
/-- a list that was made here: at D, its things as told -/
def Made {β : Type} (R : Rl β) (l : List Addr) (H : Hp) (D : Addr) (xs : List β) : Prop := D ∉ l ∧ ∃ acc, H D = some (.lst acc) ∧ Paired (R (hid (D :: l) H)) acc xs
theorem Made.ls {K : PySem.W.Frag} {β : Type} {R : Rl β} (m : Mono R) {l : List Addr} {H : Hp} {D : Addr} {xs : List β} (h : Made R l H D xs) : LsV K R (hid l H) (.ref D) xs := by
  obtain ⟨hD, acc, ha, hp⟩ := h
  refine ⟨D, acc, rfl, ?_, hp.mono fun x y z => m _ _ _ _ hid_tail z⟩
  rw [hid_out hD]
  exact ha
theorem lc_gen {β : Type} {J : It} {n : Nat} {G : Hp → Prop} {Y : Nat → Hp → V → Hp → Prop} (wk : Walk J n G Y) {g : TG} {tt : TT} {te : TE} {vs : List Nat} {σ : L2.St} {H1 : Hp} {D : Addr} {Qd : Hp → Prop} {l : List Addr} {R : Rl β} (m : Mono R) (rs : Nat → Option β)
    (hD : H1 D = none) (hl : Live l H1) (hn : n ≤ sizeLine) (hG : ∀ H, Same H1 H → G H)
    (hs : ∀ i x H H' (Put : V → Hp → Prop) (Skip : Hp → Prop), i < n → Same H1 H → (∃ acc, H D = some (.lst acc)) → Y i H x H' →
      (∀ y H4 r, Same H H4 → rs i = some r → R (hid (D :: l) H4) y r → Put y H4) → (∀ H3, Same H H3 → rs i = none → Skip H3) →
      g x (wipe σ vs) H' fun σ2 H2 => wipe σ2 vs = wipe σ vs ∧ tt σ2 H2 fun b H3 => if b = true then te σ2 H3 Put else Skip H3)
    (hd : ∀ H, Same H1 H → Made R l H D (fm rs n) → Qd H) :
    ∃ W : Nat → Nat → Hp → Prop, (∃ m, W 0 m (upd H1 D (.lst []))) ∧ ∀ i m H, W i m H →
      (J.stop i H ∧ Qd H) ∨ (J.go i H ∧ ∃ Nx : Hp → Prop, (∀ H', Nx H' → ∃ m', m' < m ∧ W (i + 1) m' H') ∧ ∀ x H', J.yld i H x H' → g x (wipe σ vs) H' fun σ2 H2 => wipe σ2 vs = wipe σ vs ∧ tt σ2 H2 fun b H3 =>
        if b = true then te σ2 H3 fun y H4 => ∃ acc, H4 D = some (.lst acc) ∧ acc.length < sizeLine ∧ Nx (upd H4 D (.lst (acc ++ [y]))) else Nx H3) := by
  refine lc_it wk (fun i H => Same H1 H ∧ ∃ acc, H D = some (.lst acc) ∧ Paired (R (hid (D :: l) H)) acc (fm rs i)) ⟨same_new hD, [], upd_same, .nil⟩ (fun i H _ h => hG H h.1) (fun i x H H' hi h y => ?_) (fun H h => ?_)
  · obtain ⟨sm, acc, ha, hp⟩ := h
    refine hs i x H H' _ _ hi sm ⟨acc, ha⟩ y (fun v H4 r s4 er hr => ?_) (fun H3 s3 er => ?_)
    · have hlen : acc.length ≤ i := by
        rw [hp.length]
        exact fm_len rs i
      refine ⟨acc, s4 _ _ ha, by omega, same_write (sm.trans s4) hD, acc ++ [v], upd_same, ?_⟩
      rw [hid_write List.mem_cons_self, fm_succ, er]
      exact (hp.mono fun x y z => m _ _ _ _ (hid_mono s4) z).snoc hr
    · refine ⟨sm.trans s3, acc, s3 _ _ ha, ?_⟩
      rw [fm_succ, er, List.append_nil]
      exact hp.mono fun x y z => m _ _ _ _ (hid_mono s3) z
  · obtain ⟨sm, acc, ha, hp⟩ := h
    exact hd H sm ⟨hl.out hD, acc, ha, hp⟩
theorem yfn {f : Nat → V} {i : Nat} {H H' : Hp} {x : V} (h : YFn f i H x H') : H' = H ∧ x = f i := h
theorem yrange {lo i : Nat} {H H' : Hp} {x : V} (h : YFn (fun i => .int ((lo : Int) + (i : Int))) i H x H') : H' = H ∧ x = .int ((lo + i : Nat) : Int) := by
  obtain ⟨h1, h2⟩ := h
  exact ⟨h1, h2.trans (by rw [Int.natCast_add])⟩
theorem yrange0 {i : Nat} {H H' : Hp} {x : V} (h : YFn (fun i => .int ((0 : Int) + (i : Int))) i H x H') : H' = H ∧ x = .int (i : Int) := by
  obtain ⟨h1, h2⟩ := h
  exact ⟨h1, h2.trans (by show V.int (0 + (i : Int)) = _; rw [Int.zero_add])⟩
/-- .. where every turn gives one -/
theorem lc_all {β : Type} {J : It} {n : Nat} {G : Hp → Prop} {Y : Nat → Hp → V → Hp → Prop} (wk : Walk J n G Y) {g : TG} {te : TE} {vs : List Nat} {σ : L2.St} {H1 : Hp} {D : Addr} {Qd : Hp → Prop} {l : List Addr} {R : Rl β} (m : Mono R) (f : Nat → β)
    (hD : H1 D = none) (hl : Live l H1) (hn : n ≤ sizeLine) (hG : ∀ H, Same H1 H → G H)
    (hs : ∀ i x H H' (Put : V → Hp → Prop), i < n → Same H1 H → Live (D :: l) H → Y i H x H' →
      (∀ y H4, Same H H4 → R (hid (D :: l) H4) y (f i) → Put y H4) → g x (wipe σ vs) H' fun σ2 H2 => wipe σ2 vs = wipe σ vs ∧ te σ2 H2 Put)
    (hd : ∀ H, Same H1 H → Made R l H D ((List.range n).map f) → Qd H) :
    ∃ W : Nat → Nat → Hp → Prop, (∃ m, W 0 m (upd H1 D (.lst []))) ∧ ∀ i m H, W i m H →
      (J.stop i H ∧ Qd H) ∨ (J.go i H ∧ ∃ Nx : Hp → Prop, (∀ H', Nx H' → ∃ m', m' < m ∧ W (i + 1) m' H') ∧ ∀ x H', J.yld i H x H' → g x (wipe σ vs) H' fun σ2 H2 => wipe σ2 vs = wipe σ vs ∧ tYes σ2 H2 fun b H3 =>
        if b = true then te σ2 H3 fun y H4 => ∃ acc, H4 D = some (.lst acc) ∧ acc.length < sizeLine ∧ Nx (upd H4 D (.lst (acc ++ [y]))) else Nx H3) := by
  refine lc_gen wk m (fun i => some (f i)) hD hl hn hG (fun i x H H' Put Skip hi sm ha y h1 h2 => ?_) (fun H sm h => hd H sm (by rw [fm_map] at h; exact h))
  obtain ⟨acc, ha⟩ := ha
  exact hs i x H H' Put hi sm ((hl.same sm).cons ha) y (fun y H4 s4 r => h1 y H4 _ s4 rfl r)
/-- .. where the items that pass are kept -/
theorem fm_filter {β : Type} {n : Nat} {rs : Nat → Option β} : fm rs n = ((List.range n).filterMap rs) := rfl
/-! ### rules that name K -/
section
variable {X : Cx} {K : PySem.W.Frag}
theorem ixlK (K : PySem.W.Frag) (h : X.K = K := by rfl) : IxR X (rIxL K) := h ▸ ix_list
theorem ixtK (K : PySem.W.Frag) (h : X.K = K := by rfl) : IxR X (rIxT K) := h ▸ ix_tup
theorem ninK (K : PySem.W.Frag) (h : X.K = K := by rfl) : OpR X (compareOp .NotIn) (rIn K true) := h ▸ op_notIn_seq
theorem inK (K : PySem.W.Frag) (h : X.K = K := by rfl) : OpR X (compareOp .In) (rIn K false) := h ▸ op_in_seq
theorem lenK (K : PySem.W.Frag) (h : X.K = K := by rfl) : CallR X (.builtin "len") (fun xs H Q => ∃ p ys, xs = [.ref p] ∧ (SqL K H p ys ∨ SqT K H p ys) ∧ Q (.int ys.length) H) := h ▸ call_len_seq
theorem eqK (K : PySem.W.Frag) (hu : X.A.units + 64 < cLine) (h : X.K = K := by rfl) : OpR X (compareOp .Eq) (rEqD K) := h ▸ op_eqD hu
theorem neK (K : PySem.W.Frag) (hu : X.A.units + 64 < cLine) (h : X.K = K := by rfl) : OpR X (compareOp .NotEq) (rNeD K) := h ▸ op_neD hu
theorem slK (K : PySem.W.Frag) (h : X.K = K := by rfl) : SlR X (rSlL K) := h ▸ sl_list
theorem lstK {tg l : Expr} {tl : TE} (K : PySem.W.Frag) (hl : PE X l tl) (h : X.K = K := by rfl) : PI X tg l (iList K tl) := h ▸ pi_list hl
theorem tgK {es : List Expr} {pos : Pos} {k : Nat} {t : TGs} {n : Nat} (K : PySem.W.Frag) (hc : X.calm = true) (h : PGs X es t) (hK : X.K = K := by rfl)
    (hn : (assignEach es X.env).length = n := by rfl) (hst : (assignEach es X.env).findIdx? (·.1) = none := by rfl) : PG X (.Tuple es k pos) (gTup K n t) := hK ▸ pg_tup hc h hn hst
theorem zipK {e e2 : Expr} {ta : TA} {p pos tpos : Pos} {elts : List Expr} {kk : Nat} (K : PySem.W.Frag) (hg : Gl X "zip") (hm : X.mg "zip" = none) (ha : PA X [e, e2] ta) (h : X.K = K := by rfl)
    (hs : starEach [e, e2] X.env = (false, eval e X.env) :: starEach [e2] X.env := by rfl) (hpl : (backTo pos (starEach [e2] X.env)).any (·.1) = false := by rfl) :
    PI X (.Tuple elts kk tpos) (.Call (.Name "zip" p) [e, e2] [] pos) (iZip K ta) := h ▸ pi_zip hg hm ha hs hpl
end
end K57
end

section
set_option Elab.async false
set_option linter.all false
set_option maxRecDepth 100000
set_option maxHeartbeats 4000000
namespace K57
open PySem PySem.Spec PyProof.Rows L2
section
variable {P : Program} {w : World} {K : PySem.W.Frag} {mg : Str → Option Value} {base : Heap} {ad : Nat → Addr} {fd : Nat → FuncData}
/-! ### beside_of -/
theorem inV_nat (x : Nat) (l : List Nat) : inV (.int (x : Int)) (l.map fun n : Nat => V.int (n : Int)) = decide (x ∈ l) := by
  unfold inV
  rw [List.any_map]
  induction l with
  | nil => rfl
  | cons y l ih =>
    rw [List.any_cons, ih]
    show ((y : Int) == (x : Int) || decide (x ∈ l)) = decide (x ∈ y :: l)
    by_cases e : x = y
    · subst e
      simp
    · have e1 : ((y : Int) == (x : Int)) = false := by
        rw [beq_eq_false_iff_ne]
        omega
      rw [e1]
      simp [e]
theorem flat_nat (l : List Nat) : (l.map fun n : Nat => V.int (n : Int)).all flatV = true := by
  rw [List.all_map]
  exact List.all_eq_true.mpr fun _ _ => rfl
abbrev natsV (l : List Nat) : List V := l.map fun n : Nat => V.int (n : Int)
/-- a list of whole numbers -/
theorem ls_nat {H : Hp} {v : V} {l : List Nat} (h : LsV K NatV H v l) : ∃ a, v = .ref a ∧ SqL K H a (natsV l) := by
  obtain ⟨a, xs, h1, h2, h3⟩ := h
  have e : xs = natsV l := paired_nat h3
  exact ⟨a, h1, .of (e ▸ h2)⟩
theorem ls_natT {H : Hp} {v : V} {l : List Nat} (h : LsV K NatV H v l) : ∃ a, v = .ref a ∧ H a = some (.lst (natsV l)) := by
  obtain ⟨a, xs, h1, h2, h3⟩ := h
  have e : xs = natsV l := paired_nat h3
  exact ⟨a, h1, e ▸ h2⟩
theorem ls_nat_of {H : Hp} {a : Addr} {l : List Nat} (h : H a = some (.lst (natsV l))) : LsV K NatV H (.ref a) l := ⟨a, _, rfl, h, nat_paired l⟩
theorem up_seq {H H' : Hp} {l : List Addr} {a : Addr} {xs : List V} (sm : Same H H') (h : SqL K (hid l H) a xs) : SqL K H' a xs := sm.seq (hid_sub.seq h)
def spBeside (K : PySem.W.Frag) : Sp := fun vs H Q _ => ∃ (l : List Addr) (v : V) (side : List Nat) (n : Nat), vs = [v, .int (n : Int)] ∧ Live l H ∧ LsV K NatV (hid l H) v side ∧ n ≤ 1000 ∧
  ∀ u H', Same H H' → LsV K NatV (hid l H') u (beside side n) → Q u H'
theorem sc24 : FnScope ["side", "n", "point"] ["side", "n"] (defScope (top 24)) := ⟨rfl, rfl, rfl, by decide +kernel, rfl, by decide +kernel, by decide +kernel⟩
theorem ok24 (T : Txt K mg ad fd) : FnOk P w K mg base CX0 1 (ad 24) (fd 24) ["side", "n"] (spBeside K) := by
  refine T.d24.F.ok sc24 (fun vs H Q E h => ?_) (fun cdv A outer s H vs Q E hr h => ?_)
  · obtain ⟨l, v, side, n, rfl, _⟩ := h
    rfl
  · obtain ⟨l, v, side, n, rfl, lv, hs, hn, q⟩ := h
    obtain ⟨a, rfl, ha⟩ := ls_nat hs
    refine ⟨_, pss_one (ps_ret (pe_lc (own := [("point", 2)]) (g := gName 2) (by rfl) sc24.nd (pi_range1 rfl T.range (pa_cons (pv 1) pa_nil)) (blkOk_by (own := [("point", 2)]) (N := ["side", "n", "point"]) (sc := defScope (top 24)) (by decide +kernel))
      (fun _ _ _ _ _ => pg_name (i := 2) sc24.nd rfl (Or.inl rfl)) (fun _ _ _ _ _ => pts_one (pt_cmpR (ninK K) (pv 2) (pv 0) (by rfl))) (fun _ _ _ _ _ => pv 2))), ?_⟩
    refine ⟨_, rfl, n, rfl, by omega, by omega, fun D hD => ?_⟩
    refine lc_gen walk_range mono_nat (fun i => if i ∈ side then none else some i) hD lv (by show n ≤ sizeLine; exact Nat.le_of_lt (small1000 hn)) (fun _ _ => trivial) (fun i x H1 H2 Put Skip hi sm hacc hy h1 h2 => ?_) (fun H1 sm h => ?_)
    · obtain ⟨rfl, rfl⟩ := yrange0 hy
      refine ⟨rfl, _, rfl, _, rfl, a, natsV side, rfl, .inl (up_seq sm ha), rfl, flat_nat side, _, rfl, ?_⟩
      show if (!inV (.int (i : Int)) (natsV side)) = true then _ else _
      rw [inV_nat]
      by_cases hm : i ∈ side
      · rw [decide_eq_true hm]
        refine iteF ?_
        exact h2 _ (Same.refl _) (if_pos hm)
      · rw [decide_eq_false hm]
        refine iteT ?_
        exact ⟨_, rfl, h1 _ _ i (Same.refl _) (if_neg hm) rfl⟩
    · refine q _ _ sm ?_
      have e : fm (fun i => if i ∈ side then none else some i) n = beside side n := by
        unfold fm beside
        rw [← List.filterMap_eq_filter]
        refine congrArg (fun f => List.filterMap f (List.range n)) (funext fun i => ?_)
        by_cases hm : i ∈ side <;> simp [hm, Option.guard]
      have e2 : ((n : Int)).toNat = n := rfl
      rw [e2, e] at h
      exact h.ls mono_nat
/-! ### pairs_of -/
theorem cut_from {xs : List V} {k : Nat} (h : k ≤ xs.length) : cutV xs (some (k : Int)) none = xs.drop k := by
  unfold cutV
  rw [HT.sIx_nat, HT.sIx_none, Nat.min_eq_left h]
  exact List.take_of_length_le (by rw [List.length_drop]; omega)
def pairsK (pts : List Nat) (k : Nat) : List (Nat × Nat) := (pts.drop k).map fun y => (pts.getD k 0, y)
def pairsUp (pts : List Nat) (i : Nat) : List (Nat × Nat) := (List.range i).flatMap (pairsK pts)
theorem pairsUp_all : ∀ pts : List Nat, pairsUp pts pts.length = pairsL pts
  | [] => rfl
  | x :: xs => by
    unfold pairsUp pairsL
    rw [List.length_cons, List.range_succ_eq_map, List.flatMap_cons, List.flatMap_map]
    congr 1
    rw [← pairsUp_all xs]
    rfl
theorem pairsUp_succ (pts : List Nat) (i : Nat) : pairsUp pts (i + 1) = pairsUp pts i ++ pairsK pts i := by
  unfold pairsUp
  rw [List.range_succ, List.flatMap_append]
  simp
theorem pairsUp_len (pts : List Nat) : ∀ i, (pairsUp pts i).length ≤ i * pts.length
  | 0 => by simp [pairsUp]
  | i + 1 => by
    rw [pairsUp_succ, List.length_append]
    have h1 := pairsUp_len pts i
    have h2 : (pairsK pts i).length ≤ pts.length := by
      unfold pairsK
      rw [List.length_map, List.length_drop]
      omega
    rw [Nat.add_mul, Nat.one_mul]
    omega
abbrev PairsV (K : PySem.W.Frag) : Rl (List (Nat × Nat)) := LsV K (PrV K NatV NatV)
def spPairs (K : PySem.W.Frag) : Sp := fun vs H Q _ => ∃ (l : List Addr) (v : V) (pts : List Nat), vs = [v] ∧ Live l H ∧ LsV K NatV (hid l H) v pts ∧ pts.length ≤ 1000 ∧
  ∀ u H', Same H H' → PairsV K (hid l H') u (pairsL pts) → Q u H'
theorem sc22 : FnScope ["points", "found", "k", "other"] ["points"] (defScope (top 22)) := ⟨rfl, rfl, rfl, by decide +kernel, rfl, by decide +kernel, by decide +kernel⟩
theorem ok22 (T : Txt K mg ad fd) : FnOk P w K mg base CX0 1 (ad 22) (fd 22) ["points"] (spPairs K) := by
  refine T.d22.F.ok sc22 (fun vs H Q E h => ?_) (fun cdv A outer s H vs Q E hr h => ?_)
  · obtain ⟨l, v, pts, rfl, _⟩ := h
    rfl
  · obtain ⟨l, v, pts, rfl, lv, hs, hn, q⟩ := h
    obtain ⟨a, rfl, ha⟩ := ls_nat hs
    refine ⟨_, pss_cons (ps_set (i := 1) sc22.nd rfl (.inl rfl) (pe_lst pa_nil))
      (pss_cons (ps_for PassesOwn.never rfl (pi_range1 rfl T.range (pa_cons (pe_callB call_len_seq (by rfl) T.len PySem.boot_len (pa_cons (pv 0) pa_nil)) pa_nil)) (pg_name (i := 2) sc22.nd rfl (Or.inr rfl))
        (pss_one (ps_expr (pe_bm PySem.F.plainAttrs_list PySem.F.slot_list_extend PySem.F.type_list_extend mt_extend (pv 1) (pa_cons
          (pe_lc (own := [("other", 3)]) (g := gName 3) (by rfl) sc22.nd (pi_list (pe_slice sl_list (pv 0) (po_some (pv 2)) po_none)) (blkOk_by (own := [("other", 3)]) (N := ["points", "found", "k", "other"]) (sc := defScope (top 22)) (by decide +kernel))
            (fun _ _ _ _ _ => pg_name (i := 3) sc22.nd rfl (Or.inl rfl)) (fun _ _ _ _ _ => pts_nil) (fun _ _ _ _ _ => pe_tup (pa_cons (pe_ix (ixlK K) (pv 0) (pv 2) (fun _ _ => rfl)) (pa_cons (pv 3) pa_nil)))) pa_nil)))))
      (pss_one (ps_ret (pv 1)))), ?_⟩
    refine ⟨Nat.zero_le _, fun f nf => ?_⟩
    have s1 : Same H (upd H f (.lst [])) := same_new nf
    refine ⟨_, rfl, a, natsV pts, rfl, .inl (up_seq s1 ha), pts.length, by rw [List.length_map], by omega, by omega, ?_⟩
    refine for_range (n := pts.length) (fun i σ H' => ∃ y2 y3, σ = [some (.ref a), some (.ref f), y2, y3] ∧ Same H H' ∧ ∃ acc, H' f = some (.lst acc) ∧ Paired (PrV K NatV NatV (hid (f :: l) H')) acc (pairsUp pts i))
      ⟨none, none, rfl, s1, [], upd_same, .nil⟩ (fun i σ H' hi h => ?_) (fun σ H' h => ?_)
    · obtain ⟨y2, y3, rfl, sm, acc, hacc, hp⟩ := h
      have lv' : Live (f :: l) H' := (lv.same sm).cons hacc
      have e0 : (0 : Int) + (i : Int) = (i : Int) := by omega
      rw [e0]
      refine ⟨_, rfl, .inl ⟨rfl, _, .of hacc⟩, _, rfl, _, rfl, i, rfl, a, natsV pts, rfl, up_seq sm ha, fun c nc => ?_⟩
      rw [cut_from (by rw [List.length_map]; omega)]
      have s2 : Same H' (upd H' c (.lst ((natsV pts).drop i))) := same_new nc
      have el : ((natsV pts).drop i).length = pts.length - i := by rw [List.length_drop, List.length_map]
      refine ⟨c, rfl, ⟨_, .of upd_same⟩, fun D hD => ?_⟩
      refine lc_all (walk_list (xs := (natsV pts).drop i)) (l := f :: l) (mono_pr (K := K) mono_nat mono_nat) (fun j => (pts.getD i 0, pts.getD (i + j) 0)) hD (lv'.same s2) (by rw [el]; exact Nat.le_of_lt (small1000 (by omega))) (fun H3 sm3 => .of (sm3 _ _ upd_same))
        (fun j x H3 H4 Put hj sm3 lv3 hy hput => ?_) (fun H3 sm3 hR => ?_)
      · obtain ⟨rfl, hx⟩ := hy
        rw [el] at hj
        have hx' : x = .int ((pts.getD (i + j) 0 : Nat) : Int) := by
          rw [List.getElem?_drop, List.getElem?_map, List.getElem?_eq_getElem (show i + j < pts.length by omega)] at hx
          rw [List.getD_eq_getElem?_getD, List.getElem?_eq_getElem (show i + j < pts.length by omega)]
          exact (Option.some.inj hx).symm
        subst hx'
        have hget : (natsV pts)[i]? = some (.int ((pts.getD i 0 : Nat) : Int)) := by
          rw [List.getElem?_map, List.getElem?_eq_getElem hi, List.getD_eq_getElem?_getD, List.getElem?_eq_getElem hi]
          rfl
        refine ⟨rfl, _, rfl, _, rfl, a, natsV pts, i, _, rfl, rfl, up_seq (sm.trans (s2.trans sm3)) ha, atI_nat hget, _, rfl, by show 2 ≤ sizeLine; decide, fun p hp' => ?_⟩
        refine hput _ _ (same_new hp') ⟨p, _, _, rfl, .of ?_, rfl, rfl⟩
        rw [hid_out (lv3.out hp'), upd_same]
      · obtain ⟨nD, zs, hz, hpz⟩ := hR
        have s3 := s2.trans sm3
        have hf3 : H3 f = some (.lst acc) := s3 _ _ hacc
        have hlen : acc.length + zs.length ≤ sizeLine := by
          have h1 := hp.length
          have h2 := hpz.length
          have h3 := pairsUp_len pts i
          have h4 : i * pts.length ≤ 1000 * 1000 := Nat.mul_le_mul (by omega) hn
          rw [List.length_map, List.length_range, el] at h2
          have : 1000 * 1000 + 1000 ≤ sizeLine := by decide
          omega
        refine ⟨f, _, acc, zs, rfl, rfl, hf3, hz, hlen, ?_⟩
        refine ⟨_, _, rfl, same_write (sm.trans s3) nf, acc ++ zs, upd_same, ?_⟩
        rw [hid_write List.mem_cons_self, pairsUp_succ]
        refine paired_append (hp.mono fun x y z => mono_pr (K := K) mono_nat mono_nat _ _ _ _ (hid_mono s3) z) ?_
        have ez : pairsK pts i = (List.range ((natsV pts).drop i).length).map fun j => (pts.getD i 0, pts.getD (i + j) 0) := by
          rw [el]
          unfold pairsK
          refine List.ext_getElem? fun j => ?_
          rw [List.getElem?_map, List.getElem?_map, List.getElem?_drop]
          by_cases hj : j < pts.length - i
          · rw [List.getElem?_range hj, List.getElem?_eq_getElem (show i + j < pts.length by omega)]
            simp [List.getD_eq_getElem?_getD, List.getElem?_eq_getElem (show i + j < pts.length by omega)]
          · rw [List.getElem?_eq_none (by omega), List.getElem?_eq_none (by rw [List.length_range]; omega)]
            rfl
        rw [ez]
        exact hpz.mono fun x y z => mono_pr (K := K) mono_nat mono_nat _ _ _ _ hid_tail z
    · obtain ⟨y2, y3, rfl, sm, acc, hacc, hp⟩ := h
      refine ⟨_, rfl, q _ _ sm ⟨f, acc, rfl, ?_, ?_⟩⟩
      · rw [hid_out (lv.out nf)]
        exact hacc
      · rw [← pairsUp_all]
        exact hp.mono fun x y z => mono_pr (K := K) mono_nat mono_nat _ _ _ _ hid_tail z
end
end K57
end

section
set_option Elab.async false
set_option linter.all false
set_option maxRecDepth 100000
set_option maxHeartbeats 4000000
namespace K57
open PySem PySem.Spec PyProof.Rows L2
section
variable {P : Program} {w : World} {K : PySem.W.Frag} {mg : Str → Option Value} {base : Heap} {ad : Nat → Addr} {fd : Nat → FuncData}
/-! ### least_over -/
theorem max3_int (x y z : Int) : nuMax3 (.int x) (.int y) (.int z) = some (.int (max (max x y) z)) := by
  have e : ∀ a b : Int, nuMax2 (.int a) (.int b) = some (.int (max a b)) := fun a b => by
    show some (if decide (a < b) = true then V.int b else V.int a) = _
    by_cases h : a < b
    · rw [if_pos (decide_eq_true h), show max a b = b by omega]
    · rw [if_neg (by simpa using h), show max a b = a by omega]
  unfold nuMax3
  rw [e]
  exact e _ _
def matL (n : Nat) (r : Mx) : List (List Int) := (List.range n).map fun i => (List.range n).map fun j => r i j
abbrev RowsV (K : PySem.W.Frag) : Rl (List (List Int)) := LsV K (LsV K IntV)
def RowAt (K : PySem.W.Frag) (H : Hp) (A : Addr) (n : Nat) (r : Mx) : Prop := ∃ xs, SqL K H A xs ∧ ∀ a, a < n → ∃ ra ys, xs[a]? = some (.ref ra) ∧ SqL K H ra ys ∧ ∀ b, b < n → ys[b]? = some (.int (r a b))
theorem RowAt.same {H H' : Hp} {A : Addr} {n : Nat} {r : Mx} (e : Same H H') (h : RowAt K H A n r) : RowAt K H' A n r := by
  obtain ⟨xs, h1, h2⟩ := h
  refine ⟨xs, e.seq h1, fun a ha => ?_⟩
  obtain ⟨ra, ys, h3, h4, h5⟩ := h2 a ha
  exact ⟨ra, ys, h3, e.seq h4, h5⟩
theorem rows_at {H : Hp} {v : V} {n : Nat} {r : Mx} (h : RowsV K H v (matL n r)) : ∃ A, v = .ref A ∧ RowAt K H A n r := by
  obtain ⟨A, xs, h1, h2, h3⟩ := h
  refine ⟨A, h1, xs, .of h2, fun a ha => ?_⟩
  obtain ⟨x, h4, ra, ys, h5, h6, h7⟩ := paired_get h3 (i := a) (a := (List.range n).map fun j => r a j) (by
    unfold matL
    rw [List.getElem?_map, List.getElem?_range ha]
    rfl)
  refine ⟨ra, ys, by rw [h4, h5], .of h6, fun b hb => ?_⟩
  obtain ⟨y, h8, h9⟩ := paired_get h7 (i := b) (a := r a b) (by rw [List.getElem?_map, List.getElem?_range hb] <;> rfl)
  rw [h8, h9]
theorem rdSum {σ : L2.St} {H : Hp} {Q : VK} {A : Addr} {n : Nat} {r : Mx} {ia ib ic ie a b c e : Nat} (hR : RowAt K H A n r) (h0 : σ[0]? = some (some (.ref A))) (ha : σ[ia]? = some (some (.int (a : Int)))) (hb : σ[ib]? = some (some (.int (b : Int)))) (hc : σ[ic]? = some (some (.int (c : Int)))) (he : σ[ie]? = some (some (.int (e : Int))))
    (la : a < n) (lb : b < n) (lc : c < n) (le : e < n) (q : Q (.int (r a b + r c e)) H) :
    tOp (rI0 fun i j => .int (i + j)) (tOp (rIxL K) (tOp (rIxL K) (tVar 0) (tVar ia)) (tVar ib)) (tOp (rIxL K) (tOp (rIxL K) (tVar 0) (tVar ic)) (tVar ie)) σ H Q := by
  obtain ⟨xs, h1, h2⟩ := hR
  obtain ⟨ra, ys, h3, h4, h5⟩ := h2 a la
  obtain ⟨rc, zs, h6, h7, h8⟩ := h2 c lc
  refine ⟨_, h0, _, ha, A, xs, a, .ref ra, rfl, rfl, h1, atI_nat h3, _, hb, ra, ys, b, _, rfl, rfl, h4, atI_nat (h5 b lb), ?_⟩
  exact ⟨_, h0, _, hc, A, xs, c, .ref rc, rfl, rfl, h1, atI_nat h6, _, he, rc, zs, e, _, rfl, rfl, h7, atI_nat (h8 e le), _, _, rfl, rfl, q⟩
def fV : Option Int → V
  | none => .non
  | some m => .int m
def outerF (r : Mx) (others : List Nat) (o : Option Int) (p : Nat × Nat) : Option Int := (pairsL others).foldl (fun o q => leastS o (quad r p.1 p.2 q.1 q.2)) o
theorem fold_flat {α β γ : Type} (f : γ → β → γ) (g : α → List β) : ∀ (l : List α) (o : γ), (l.flatMap g).foldl f o = l.foldl (fun o a => (g a).foldl f o) o
  | [], o => rfl
  | a :: l, o => by rw [List.flatMap_cons, List.foldl_append, List.foldl_cons, fold_flat f g l]
theorem least_fold (r : Mx) (side others : List Nat) : leastO (quadsL r side others) = (pairsL side).foldl (outerF r others) none := by
  unfold leastO quadsL
  rw [fold_flat]
  congr 1
  funext o p
  unfold outerF
  rw [List.foldl_map]
theorem fold_take {α β : Type} (f : β → α → β) (o : β) {l : List α} {i : Nat} {a : α} (h : l[i]? = some a) : (l.take (i + 1)).foldl f o = f ((l.take i).foldl f o) a := by
  rw [List.take_add_one, h]
  simp
theorem pairs_len (l : List Nat) : (pairsL l).length ≤ l.length * l.length := by
  rw [← pairsUp_all]
  exact pairsUp_len l l.length
def spLeast (K : PySem.W.Frag) : Sp := fun vs H Q _ => ∃ (u1 u2 u3 : V) (n : Nat) (r : Mx) (side others : List Nat), vs = [u1, u2, u3] ∧ RowsV K H u1 (matL n r) ∧ LsV K NatV H u2 side ∧ LsV K NatV H u3 others ∧
  (∀ x ∈ side, x < n) ∧ (∀ x ∈ others, x < n) ∧ side.length ≤ 1000 ∧ others.length ≤ 1000 ∧ side ≠ [] ∧ others ≠ [] ∧ ∀ H', Same H H' → Q (.int (least r side others)) H'
theorem sc23 : FnScope ["rows", "side", "others", "found", "a", "b", "c", "e", "near", "most"] ["rows", "side", "others"] (defScope (top 23)) := ⟨rfl, rfl, rfl, by decide +kernel, rfl, by decide +kernel, by decide +kernel⟩
theorem ok23 (T : Txt K mg ad fd) : FnOk P w K mg base CX0 2 (ad 23) (fd 23) ["rows", "side", "others"] (spLeast K) := by
  have G22 : FnOk P w K mg base CX0 1 (ad 22) (fd 22) ["points"] (spPairs K) := ok22 T
  refine T.d23.F.ok sc23 (fun vs H Q E h => ?_) (fun cdv A outer s H vs Q E hr h => ?_)
  · obtain ⟨u1, u2, u3, n, r, side, others, rfl, _⟩ := h
    rfl
  · obtain ⟨u1, u2, u3, n, r, side, others, rfl, h1, h2, h3, b1, b2, l1, l2, n1, n2, q⟩ := h
    obtain ⟨A1, rfl, hR⟩ := rows_at h1
    refine ⟨_, pss_cons (ps_set (i := 3) sc23.nd rfl (.inl rfl) pe_non)
      (pss_cons (ps_for PassesOwn.never rfl (pi_list (pe_call G22 hr (by rfl) T.d22.g T.d22.F.kp T.d22.b .nil pass0 (pa_cons (pv 1) pa_nil))) (pg_tup rfl (pgs_cons (pg_name (i := 4) sc23.nd rfl (.inl rfl)) (pgs_cons (pg_name (i := 5) sc23.nd rfl (.inl rfl)) pgs_nil)))
        (pss_one (ps_for PassesOwn.never rfl (pi_list (pe_call G22 hr (by rfl) T.d22.g T.d22.F.kp T.d22.b .nil pass0 (pa_cons (pv 2) pa_nil))) (pg_tup rfl (pgs_cons (pg_name (i := 6) sc23.nd rfl (.inl rfl)) (pgs_cons (pg_name (i := 7) sc23.nd rfl (.inl rfl)) pgs_nil)))
          (pss_cons (ps_set (i := 8) sc23.nd rfl (.inl rfl) (pe_op op_add (pe_ix (ixlK K) (pe_ix (ixlK K) (pv 0) (pv 4) (fun _ _ => rfl)) (pv 5) (fun _ _ => rfl)) (pe_ix (ixlK K) (pe_ix (ixlK K) (pv 0) (pv 6) (fun _ _ => rfl)) (pv 7) (fun _ _ => rfl))))
          (pss_cons (ps_set (i := 9) sc23.nd rfl (.inl rfl) (pe_op op_sub (pe_callB (call_max3Nu rfl) (by rfl) T.max PyProof.Rows.boot_max (pa_cons (pv 8)
              (pa_cons (pe_op op_add (pe_ix (ixlK K) (pe_ix (ixlK K) (pv 0) (pv 4) (fun _ _ => rfl)) (pv 6) (fun _ _ => rfl)) (pe_ix (ixlK K) (pe_ix (ixlK K) (pv 0) (pv 5) (fun _ _ => rfl)) (pv 7) (fun _ _ => rfl)))
              (pa_cons (pe_op op_add (pe_ix (ixlK K) (pe_ix (ixlK K) (pv 0) (pv 4) (fun _ _ => rfl)) (pv 7) (fun _ _ => rfl)) (pe_ix (ixlK K) (pe_ix (ixlK K) (pv 0) (pv 5) (fun _ _ => rfl)) (pv 6) (fun _ _ => rfl))) pa_nil)))) (pv 8)))
          (pss_one (ps_if (PW.pt (pw_or (pt_cmpR op_isN (pv 3) pe_non (nomark _)) (pw_or1 (pt_cmpR op_lt (pv 9) (pv 3) (nomark _))))) (pss_one (ps_set (i := 3) sc23.nd rfl (.inl rfl) (pv 9))) pss_nil)))))))
      (pss_one (ps_ret (pv 3)))), ?_⟩
    refine ⟨_, rfl, [], u2, side, rfl, Live.nil, by rw [hid_nil]; exact h2, l1, fun v Hp sm hp => ?_⟩
    rw [hid_nil] at hp
    obtain ⟨pa, xs, rfl, hx, hpx⟩ := hp
    have hx : SqL K Hp pa xs := .of hx
    refine ⟨pa, rfl, ⟨_, hx⟩, ?_⟩
    refine for_list (K := K) (a := pa) (xs := xs) (fun i σ H' => ∃ y4 y5 y6 y7 y8 y9, σ = [some (.ref A1), some u2, some u3, some (fV (((pairsL side).take i).foldl (outerF r others) none)), y4, y5, y6, y7, y8, y9] ∧ Same Hp H')
      ⟨none, none, none, none, none, none, rfl, Same.refl _⟩ (fun i σ H' _ ⟨_, _, _, _, _, _, _, sm'⟩ => sm'.seq hx) (fun i x σ H' hi h => ?_) (fun σ H' h => ?_)
    · obtain ⟨y4, y5, y6, y7, y8, y9, rfl, sm'⟩ := h
      obtain ⟨⟨a, b⟩, hab, t, x0, y0, rfl, ht, ea, eb⟩ := paired_get' hpx hi
      cases show x0 = .int (a : Int) from ea
      cases show y0 = .int (b : Int) from eb
      have mab := pairs_in (List.mem_of_getElem? hab)
      have la : a < n := b1 a mab.1
      have lb : b < n := b1 b mab.2
      refine ⟨t, _, rfl, Same.tup sm' ht, rfl, _, _, rfl, _, _, rfl, rfl, ?_⟩
      refine ⟨_, rfl, [], u3, others, rfl, Live.nil, by rw [hid_nil]; exact mono_ls mono_nat _ _ _ _ (sm.trans sm') h3, l2, fun v H2 sm2 hp2 => ?_⟩
      rw [hid_nil] at hp2
      obtain ⟨pb, zs, rfl, hz, hpz⟩ := hp2
      have hz : SqL K H2 pb zs := .of hz
      refine ⟨pb, rfl, ⟨_, hz⟩, ?_⟩
      refine for_list (K := K) (a := pb) (xs := zs) (fun j σ H' => ∃ y6 y7 y8 y9, σ = [some (.ref A1), some u2, some u3, some (fV (((pairsL others).take j).foldl (fun o q => leastS o (quad r a b q.1 q.2)) (((pairsL side).take i).foldl (outerF r others) none))), some (.int (a : Int)), some (.int (b : Int)), y6, y7, y8, y9] ∧ Same H2 H')
        ⟨y6, y7, y8, y9, rfl, Same.refl _⟩ (fun i σ H' _ ⟨_, _, _, _, _, sm'⟩ => sm'.seq hz) (fun j x σ H3 hj h => ?_) (fun σ H3 h => ?_)
      · obtain ⟨y6, y7, y8, y9, rfl, sm3⟩ := h
        obtain ⟨⟨c, e⟩, hce, t', x0, y0, rfl, ht', ea, eb⟩ := paired_get' hpz hj
        cases show x0 = .int (c : Int) from ea
        cases show y0 = .int (e : Int) from eb
        have mce := pairs_in (List.mem_of_getElem? hce)
        have lc : c < n := b2 c mce.1
        have le : e < n := b2 e mce.2
        have hR3 : RowAt K H3 A1 n r := hR.same (sm.trans (sm'.trans (sm2.trans sm3)))
        refine ⟨t', _, rfl, Same.tup sm3 ht', rfl, _, _, rfl, _, _, rfl, rfl, ?_⟩
        refine rdSum (a := a) (b := b) (c := c) (e := e) hR3 rfl rfl rfl rfl rfl la lb lc le ?_
        refine ⟨_, rfl, rdSum (a := a) (b := c) (c := b) (e := e) hR3 rfl rfl rfl rfl rfl la lc lb le (rdSum (a := a) (b := e) (c := b) (e := c) hR3 rfl rfl rfl rfl rfl la le lb lc ⟨_, _, _, _, rfl, max3_int _ _ _, _, rfl, _, _, rfl, rfl, ?_⟩)⟩
        have estep : ((pairsL others).take (j + 1)).foldl (fun o q => leastS o (quad r a b q.1 q.2)) (((pairsL side).take i).foldl (outerF r others) none) = leastS (((pairsL others).take j).foldl (fun o q => leastS o (quad r a b q.1 q.2)) (((pairsL side).take i).foldl (outerF r others) none)) (quad r a b c e) := fold_take _ _ hce
        rw [estep]
        generalize ((pairsL others).take j).foldl (fun o q => leastS o (quad r a b q.1 q.2)) (((pairsL side).take i).foldl (outerF r others) none) = o
        cases o with
        | none =>
          refine ⟨_, rfl, rfl, true, rfl, iteT (iteT ⟨_, rfl, _, _, _, _, rfl, sm3⟩)⟩
        | some m =>
          refine ⟨_, rfl, rfl, false, rfl, iteF ⟨_, rfl, _, rfl, _, _, rfl, rfl, _, rfl, ?_⟩⟩
          refine ite2 (fun hlt => ?_) (fun hlt => ?_)
          · have hlt := of_decide_eq_true hlt
            have e1 : leastS (some m) (quad r a b c e) = some (quad r a b c e) := congrArg some (if_pos hlt)
            rw [e1]
            exact ⟨_, rfl, _, _, _, _, rfl, sm3⟩
          · have hlt : ¬ quad r a b c e < m := fun z => hlt (decide_eq_true z)
            have e1 : leastS (some m) (quad r a b c e) = some m := congrArg some (if_neg hlt)
            rw [e1]
            exact ⟨_, _, _, _, rfl, sm3⟩
      · obtain ⟨y6, y7, y8, y9, rfl, sm3⟩ := h
        have el : zs.length = (pairsL others).length := hpz.length
        rw [fold_take (outerF r others) none hab, el, List.take_length]
        exact ⟨_, _, _, _, _, _, rfl, sm'.trans (sm2.trans sm3)⟩
    · obtain ⟨y4, y5, y6, y7, y8, y9, rfl, sm'⟩ := h
      have el : xs.length = (pairsL side).length := hpx.length
      rw [el, List.take_length, ← least_fold]
      have hne : quadsL r side others ≠ [] := by
        intro e
        obtain ⟨p, hp⟩ := List.exists_mem_of_ne_nil _ (pairs_ne n1)
        obtain ⟨q, hq⟩ := List.exists_mem_of_ne_nil _ (pairs_ne n2)
        have : quad r p.1 p.2 q.1 q.2 ∈ ([] : List Int) := e ▸ List.mem_flatMap.mpr ⟨p, hp, List.mem_map.mpr ⟨q, hq, rfl⟩⟩
        simp at this
      obtain ⟨m, em, _⟩ := leastO_some hne
      rw [em]
      refine ⟨_, rfl, ?_⟩
      have := q H' (sm.trans sm')
      unfold least at this
      rw [em] at this
      exact this
end
end K57
end

section
set_option Elab.async false
set_option linter.all false
set_option maxRecDepth 100000
set_option maxHeartbeats 4000000
namespace K57
open PySem PySem.Spec PyProof.Rows L2
/-! ### len({a, b, c}) -/
section
variable {P : Program} {w : World} {A : Around} {E : Value → Shared → Prop} {s : Shared} {D : Addr}
theorem unledI {S : Int → Bool} {n : Nat} {Q : Unit → Shared → Prop} (hS : s.heap.SetOf (intKind P w) D S n) (h : ∀ h', h'.SetOf (intKind P w) D S n → (∀ b o, b ≠ D → s.heap.get? b = some o → h'.get? b = some o) → Q () { s with heap := h' }) :
    wpAny (model P w) A (setUnled D) Q E s := by
  obtain ⟨o, es, ep, t, ho, hex, hd, hel, hmem, hb, hf, hn⟩ := hS
  have hf' : ({ t with led := false } : SetTable).fits es.size = true := by cases t; exact hf
  unfold setUnled
  refine wpAny_bind (wpAny_setState_of ho hd hf ?_)
  dsimp only
  refine wpAny_storeSet_of ho hd ?_ (fits_of_scanBound hb)
  obtain ⟨_, hS⟩ := SetOf_store (knd := intKind P w) ho hex hd hel hmem hb hf'
  rw [hn] at hS
  have sb := Heap.SameBut.update s.heap D (Obj.putSet es { t with led := false })
  exact h _ hS fun b o hb e => (sb.2 b hb).trans e
theorem fill_int {u : Bool} {h₀ h : Heap} {k : Nat} {S : Int → Bool} {n : Nat} {y : Int} {t : Tok} {vs : List Value} {Q : Value → Shared → Prop} (hS : h.SetOf (intKind P w) D S n) (hk : ∀ b o, b ≠ D → h₀.get? b = some o → h.get? b = some o) (hn : n + 1 < 4000)
    (q : ∀ h', h'.SetOf (intKind P w) D (fun x => S x || decide (x = y)) (if S y = true then n else n + 1) → (∀ b o, b ≠ D → h₀.get? b = some o → h'.get? b = some o) → PySem.W.KdsFill (model P w) A E u D Q vs { s with heap := h', toks := k + 1 }) :
    PySem.W.KdsFill (model P w) A E u D Q (.int y t :: vs) { s with heap := h, toks := k } := by
  refine PySem.W.kds_fill_cons ?_
  unfold setAdd
  refine wpAny_holding (wpAny_bind ((intKind P w).pyHash (k := y) (intKind_is _ _ _ _) ?_))
  refine wpAny_setAddHashed_of (knd := intKind P w) (s := { s with heap := h, toks := k + 1 }) (intKind_is _ _ _ _) rfl hS (by unfold scanBound; omega) fun h' sb hS' => ?_
  exact q h' hS' fun b o hb e => (sb.2 b hb).trans (hk b o hb e)
end
/-- how many unlike ones -/
def cnt3 (i j k : Int) : Nat := if k = i ∨ k = j then (if j = i then 1 else 2) else (if j = i then 1 else 2) + 1
section
variable {X : Cx} {a b c : Expr} {ta tb tc : TE}
def tLenD (ta tb tc : TE) : TE := fun σ H Q => ta σ H fun x H1 => tb σ H1 fun y H2 => tc σ H2 fun z H3 => ∃ i j k : Int, x = .int i ∧ y = .int j ∧ z = .int k ∧ H3 = H ∧ Q (.int (cnt3 i j k : Nat)) H
theorem pe_lenD {p pos spos : Pos} (hg : Gl X "len") (hm : X.mg "len" = none) (hcd : PySem.W.kdsCode X.K X.env.code = true) (ha : PE X a ta) (hb : PE X b tb) (hc : PE X c tc) (hp : [a, b, c].all PySem.W.kdsPlain = true := by rfl)
    (na : starEach [.Set [a, b, c] 0 spos] X.env = (false, eval (.Set [a, b, c] 0 spos) X.env) :: starEach [] X.env := by rfl) : PE X (.Call (.Name "len" p) [.Set [a, b, c] 0 spos] [] pos) (tLenD ta tb tc) := by
  refine ⟨fun pins s σ H Q I h => ?_⟩
  refine Call_ (ld_blt I hg hm boot_len ?_)
  refine PyProof.Rows.callWith_builtin1 (PyProof.Rows.args_cons ?_ na) na rfl
  rw [arm_eval_Set]
  refine wpAny_bind (wpAny_standAt ?_)
  refine wpAny_bind (PySem.W.kds_main I.kIn hcd fun bb => ?_)
  rw [PySem.W.kds_star [a, b, c] hp, List.map_map]
  refine PySem.W.kds_core (ts := (evalEach [a, b, c] X.env).map fun t => do let v ← t; standAt spos; pure v) (road0 [a, b, c]) ?_ ?_ ?_ fun led => ?_
  · refine List.findIdx?_eq_none_iff.mpr fun x hx => ?_
    obtain ⟨t, _, rfl⟩ := List.mem_map.mp hx
    rfl
  · rw [List.length_map, PySem.W.kds_len]
    exact (by decide : 3 ≤ 30)
  · rw [List.map_map]
    try rfl
  · refine PySem.W.kds_all spos [a, b, c] _ _ ?_
    -- the new set is pinned while the items are read
    have kp : ∀ b' o, s.heap.get? b' = some o → (s.heap.push { cls := .type "set", dict := none, data := .set #[] 0 (.fresh 0 0 led) }).get? b' = some o := fun b' o e => Heap.get?_push_of_some _ e
    have I0 : Inv X pins σ H { s with heap := s.heap.push { cls := .type "set", dict := none, data := .set #[] 0 (.fresh 0 0 led) } } := I.kept (t' := s.toks) kp
    have hD : H s.heap.objs.size = none := I.hok.fresh (Nat.le_refl _)
    have I1 : Inv X (pins ++ [(s.heap.objs.size, { cls := .type "set", dict := none, data := .set #[] 0 (.fresh 0 0 led) })]) σ H { s with heap := s.heap.push { cls := .type "set", dict := none, data := .set #[] 0 (.fresh 0 0 led) } } := by
      refine I0.pins_of fun p hp' => ?_
      rcases List.mem_append.mp hp' with z | z
      · exact I0.pin p (List.mem_append_right _ z)
      · have ep : p = (s.heap.objs.size, { cls := .type "set", dict := none, data := .set #[] 0 (.fresh 0 0 led) }) := by simpa using z
        subst ep
        exact ⟨Heap.get?_push_size _ rfl, hD, Nat.ne_of_gt I.lt, I.nofs (Nat.le_refl _), fun v e => nomatch e⟩
    refine thn (ha.run _ _ σ H _ I1 h) fun v1 s1 ⟨x, H1, I1, r1, q1⟩ => ?_
    refine thn (hb.run _ _ σ H1 _ I1 q1) fun v2 s2 ⟨y, H2, I2, r2, q2⟩ => ?_
    refine thn (hc.run _ _ σ H2 _ I2 q2) fun v3 s3 ⟨z, H3, I3, r3, q3⟩ => ?_
    obtain ⟨i, j, k, rfl, rfl, rfl, rfl, q⟩ := q3
    obtain ⟨t1, rfl⟩ := r1
    obtain ⟨t2, rfl⟩ := r2
    obtain ⟨t3, rfl⟩ := r3
    have pinD := I3.pin (s.heap.objs.size, { cls := .type "set", dict := none, data := .set #[] 0 (.fresh 0 0 led) }) (by simp)
    show PySem.W.KdsFill _ _ _ _ _ _ [.int i t1, .int j t2, .int k t3] s3
    have hS0 : s3.heap.SetOf (intKind X.prog X.w) s.heap.objs.size (fun _ => false) 0 := (setObjOf_fresh (knd := intKind X.prog X.w) led).setOf pinD.1 (by decide)
    refine fill_int (s := s3) (h₀ := s3.heap) (k := s3.toks) hS0 (fun _ _ _ e => e) (by decide) fun h1 hS1 k1 => ?_
    refine fill_int (s := s3) (h₀ := s3.heap) hS1 k1 (by rw [if_neg Bool.false_ne_true]; decide) fun h2 hS2 k2 => ?_
    refine fill_int (s := s3) (h₀ := s3.heap) hS2 k2 (by rw [if_neg Bool.false_ne_true]; split <;> decide) fun h3 hS3 k3 => ?_
    have en : (if (fun x => (fun x => (fun _ => false) x || decide (x = i)) x || decide (x = j)) k = true then (if (fun x => (fun _ => false) x || decide (x = i)) j = true then (if (fun _ : Int => false) i = true then 0 else 0 + 1) else (if (fun _ : Int => false) i = true then 0 else 0 + 1) + 1) else (if (fun x => (fun _ => false) x || decide (x = i)) j = true then (if (fun _ : Int => false) i = true then 0 else 0 + 1) else (if (fun _ : Int => false) i = true then 0 else 0 + 1) + 1) + 1) = cnt3 i j k := by
      unfold cnt3
      simp
    have fin : ∀ h4 : Heap, h4.SetOf (intKind X.prog X.w) s.heap.objs.size (fun x => (fun x => (fun x => (fun _ => false) x || decide (x = i)) x || decide (x = j)) x || decide (x = k)) (cnt3 i j k) →
        (∀ b o, b ≠ s.heap.objs.size → s3.heap.get? b = some o → h4.get? b = some o) →
        wpAny (model X.prog X.w) X.A (spliced (backTo pos (starEach [] X.env))) (fun vs s₂ => wpAny (model X.prog X.w) X.A (call (.builtin "len") (Value.ref s.heap.objs.size :: vs)) (EP X pins σ Q) X.xe s₂) X.xe { s3 with heap := h4, toks := s3.toks + 1 + 1 + 1 } := fun h4 hS4 k4 => by
      refine PyProof.Rows.args_nil ?_
      obtain ⟨o, es, ep, t, ho, hex, hd, _, _, _, hf, hn⟩ := hS4
      have I4 : Inv X pins σ H3 { s3 with heap := h4, toks := s3.toks + 1 + 1 + 1 } := by
        have I3' : Inv X pins σ H3 s3 := I3.pins_of fun p hp' => I3.pin p (by
          rcases List.mem_append.mp (List.mem_append_right X.pn hp') with z | z
          · exact List.mem_append_left _ z
          · exact List.mem_append_right _ (List.mem_append_left _ z))
        refine I3'.turned (it := s.heap.objs.size) k4 pinD.2.1 pinD.2.2.1 (.inr I.sz) (fun x c e z => ?_) (fun p hp' z => ?_)
        · obtain ⟨v, o', ho', hd'⟩ := I.cell x c e
          exact Nat.lt_irrefl _ (z ▸ Heap.lt_size ho')
        · exact Nat.lt_irrefl _ (z ▸ Heap.lt_size (I.pin p hp').1)
      refine call_len_set ho hex hd hf (by rw [hn]; unfold cnt3; split <;> split <;> decide) ⟨.int (cnt3 i j k : Nat), H3, I4.tok _, ⟨_, by rw [hn]⟩, q⟩
    rw [en] at hS3
    cases hu : (displayRoad 0 [a, b, c] == DisplayRoad.unsure) with
    | false => exact PySem.W.kds_fill_nil rfl (fin h3 hS3 k3)
    | true => exact PySem.W.kds_fill_unled rfl (unledI (s := { s3 with heap := h3, toks := s3.toks + 1 + 1 + 1 }) hS3 fun h4 hS4 sb => fin h4 hS4 fun b o hb e => sb b o hb (k3 b o hb e))
end
section
variable {P : Program} {w : World} {K : PySem.W.Frag} {mg : Str → Option Value} {base : Heap}
/-- a def's body, the code object told -/
theorem fnC {x qual : Str} {st : Stmt} {f : Addr} {fd : FuncData} {N ps : List Str} {k : Nat} {sp : Sp} (F : Fun K x qual st f fd) (S : FnScope N ps (defScope st)) (len : ∀ vs H Q E, sp vs H Q E → vs.length = ps.length)
    (hbody : ∀ (cdv : Value) (A : Around) (outer : List Env) (s : Shared) (H : Hp) (vs : List V) (Q : VK) (E : XK), PySem.W.kdsCode K cdv = true → Room k (A.deeper (envOfC qual (defScope st) s.heap.objs.size f cdv)) → sp vs H Q E →
      ∃ t, PSs (cxOf CX0 P w K mg base N qual (defScope st) f cdv A outer s H E).nox (defBody st) t ∧ t { nx := fun _ H' => Q .non H', rt := Q } (L2.start N vs) H) : FnOk P w K mg base CX0 (k + 1) f fd ps sp := by
  obtain ⟨oc, od, kV, doc, pm, an, cdv, ct, osl, rfl, lk, hcd⟩ := F.ex
  refine fn_of lk hcd S len fun A outer s H vs Q E hr hsp => ?_
  obtain ⟨t, h, q⟩ := hbody cdv A outer s H vs Q E (kdsCode_of hcd) hr hsp
  exact ⟨t, h.nox, q⟩
end
end K57
end

section
set_option Elab.async false
set_option linter.all false
set_option maxRecDepth 100000
set_option maxHeartbeats 4000000
set_option exponentiation.threshold 10000
namespace K57
open PySem PySem.Spec PyProof.Rows L2
section
variable {P : Program} {w : World} {K : PySem.W.Frag} {mg : Str → Option Value} {base : Heap} {ad : Nat → Addr} {fd : Nat → FuncData}
/-! ### grids -/
def matG {α : Type} (n : Nat) (f : Nat → Nat → α) : List (List α) := (List.range n).map fun i => (List.range n).map fun j => f i j
theorem matL_eq (n : Nat) (r : Mx) : matL n r = matG n r := rfl
def GridAt {α : Type} (K : PySem.W.Frag) (R : Rl α) (H : Hp) (A : Addr) (n : Nat) (f : Nat → Nat → α) : Prop :=
  ∃ xs, SqL K H A xs ∧ xs.length = n ∧ ∀ i, i < n → ∃ ra ys, xs[i]? = some (.ref ra) ∧ SqL K H ra ys ∧ ys.length = n ∧ ∀ j, j < n → ∃ v, ys[j]? = some v ∧ R H v (f i j)
theorem GridAt.same {α : Type} {R : Rl α} (m : Mono R) {H H' : Hp} {A : Addr} {n : Nat} {f : Nat → Nat → α} (e : Same H H') (h : GridAt K R H A n f) : GridAt K R H' A n f := by
  obtain ⟨xs, h1, h2, h3⟩ := h
  refine ⟨xs, e.seq h1, h2, fun i hi => ?_⟩
  obtain ⟨ra, ys, h4, h5, h6, h7⟩ := h3 i hi
  refine ⟨ra, ys, h4, e.seq h5, h6, fun j hj => ?_⟩
  obtain ⟨v, h8, h9⟩ := h7 j hj
  exact ⟨v, h8, m _ _ _ _ e h9⟩
theorem grid_at {α : Type} {R : Rl α} {H : Hp} {v : V} {n : Nat} {f : Nat → Nat → α} (h : LsV K (LsV K R) H v (matG n f)) : ∃ A, v = .ref A ∧ GridAt K R H A n f := by
  obtain ⟨A, xs, h1, h2, h3⟩ := h
  have hl := h3.length
  unfold matG at hl
  rw [List.length_map, List.length_range] at hl
  refine ⟨A, h1, xs, .of h2, hl, fun i hi => ?_⟩
  obtain ⟨x, h4, ra, ys, h5, h6, h7⟩ := paired_get h3 (i := i) (a := (List.range n).map fun j => f i j) (by
    unfold matG
    rw [List.getElem?_map, List.getElem?_range hi]
    rfl)
  have hl2 := h7.length
  rw [List.length_map, List.length_range] at hl2
  refine ⟨ra, ys, by rw [h4, h5], .of h6, hl2, fun j hj => ?_⟩
  exact paired_get h7 (i := j) (a := f i j) (by rw [List.getElem?_map, List.getElem?_range hj] <;> rfl)
theorem rdT {α : Type} {R : Rl α} {σ : L2.St} {H : Hp} {Q : VK} {A : Addr} {n : Nat} {f : Nat → Nat → α} {i0 ia ib i j : Nat} (hG : GridAt K R H A n f) (h0 : σ[i0]? = some (some (.ref A))) (hi : σ[ia]? = some (some (.int (i : Int)))) (hj : σ[ib]? = some (some (.int (j : Int))))
    (li : i < n) (lj : j < n) (q : ∀ v, R H v (f i j) → Q v H) : tOp (rIxL K) (tOp (rIxL K) (tVar i0) (tVar ia)) (tVar ib) σ H Q := by
  obtain ⟨xs, h1, _, h2⟩ := hG
  obtain ⟨ra, ys, h3, h4, _, h5⟩ := h2 i li
  obtain ⟨v, h6, h7⟩ := h5 j lj
  exact ⟨_, h0, _, hi, A, xs, i, .ref ra, rfl, rfl, h1, atI_nat h3, _, hj, ra, ys, j, v, rfl, rfl, h4, atI_nat h6, q v h7⟩
abbrev TabV (K : PySem.W.Frag) : Rl (List (List (Int × Int))) := LsV K (LsV K (FrV K))
abbrev mono_tab : Mono (TabV K) := mono_ls (mono_ls mono_fr)
/-- the table of A / D -/
def tabF (n : Nat) (D : Int) (A : Mx) : List (List (Int × Int)) := matG n fun i j => fr (A i j) D
/-- of small numbers -/
structure TabS (n : Nat) (D : Int) (A : Mx) : Prop where
  pos : 0 < D
  d : Sm 1000 D
  a : ∀ i j, i < n → j < n → Sm 1000 (A i j)
theorem sm_up {a b : Nat} (h : a ≤ b) {i : Int} (hi : Sm a i) : Sm b i := Nat.lt_of_lt_of_le hi (Nat.pow_le_pow_right (by decide) h)
theorem frS_of {a d : Int} (h : 0 < d) (ha : Sm 2000 a) (hd : Sm 2000 d) : FrS (fr a d) := ⟨fr_pos h, (fr_lt ha hd).1, (fr_lt ha hd).2⟩
theorem TabS.frS {n : Nat} {D : Int} {A : Mx} (h : TabS n D A) {i j : Nat} (hi : i < n) (hj : j < n) : FrS (fr (A i j) D) := frS_of h.pos (sm_up (by decide) (h.a i j hi hj)) (sm_up (by decide) h.d)
theorem TabS.sum {n : Nat} {D : Int} {A B : Mx} (h : TabS n D A) (h' : TabS n D B) {i j i' j' : Nat} (hi : i < n) (hj : j < n) (hi' : i' < n) (hj' : j' < n) : FrS (fr (A i j + B i' j') D) := by
  refine frS_of h.pos ?_ (sm_up (by decide) h.d)
  have h1 : (A i j).natAbs < 2 ^ 1000 := h.a i j hi hj
  have h2 : (B i' j').natAbs < 2 ^ 1000 := h'.a i' j' hi' hj'
  have h3 : (2 : Nat) ^ 1000 + 2 ^ 1000 ≤ 2 ^ 2000 := by
    have e : (2 : Nat) ^ 1000 + 2 ^ 1000 = 2 ^ 1001 := by decide
    rw [e]
    exact Nat.pow_le_pow_right (by decide) (by decide)
  show (A i j + B i' j').natAbs < 2 ^ 2000
  omega
/-! ### first_short, need_long -/
def Long (n : Nat) (A : Mx) : Prop := ∀ i j k, i < n → j < n → k < n → i ≠ j → j ≠ k → i ≠ k → A i k ≤ A i j + A j k
def spShort (K : PySem.W.Frag) : Sp := fun vs H Q _ => ∃ (v : V) (n : Nat) (D : Int) (A : Mx), vs = [v] ∧ TabV K H v (tabF n D A) ∧ TabS n D A ∧ n ≤ 1000 ∧ Long n A ∧ ∀ H', Same H H' → Q .non H'
theorem sc12 : FnScope ["table", "many", "i", "j", "k"] ["table"] (defScope (top 12)) := ⟨rfl, rfl, rfl, by decide +kernel, rfl, by decide +kernel, by decide +kernel⟩
theorem cnt3_three {i j k : Nat} : cnt3 (i : Int) (j : Int) (k : Int) = 3 ↔ (i ≠ j ∧ j ≠ k ∧ i ≠ k) := by
  unfold cnt3
  constructor
  · intro h
    split at h
    · split at h <;> omega
    · split at h <;> omega
  · intro h
    rw [if_neg (by omega), if_neg (by omega)]
theorem ok12 (T : Txt K mg ad fd) : FnOk P w K mg base CX0 4 (ad 12) (fd 12) ["table"] (spShort K) := by
  have G8 : FnOk P w K mg base CX0 3 (ad 8) (fd 8) ["q", "r"] (spBin K plusF) := ok8 T
  have G10 : FnOk P w K mg base CX0 1 (ad 10) (fd 10) ["q", "r"] (spBelow K) := ok10 T
  refine fnC T.d12.F sc12 (fun vs H Q E h => ?_) (fun cdv A outer s H vs Q E hcd hr h => ?_)
  · obtain ⟨v, n, D, A, rfl, _⟩ := h
    rfl
  · obtain ⟨v, n, D, M, rfl, ht, hs, hn, hlong, q⟩ := h
    obtain ⟨a, rfl, hG⟩ := grid_at ht
    have hr1 : Room 1 _ := hr.mono (by decide)
    refine ⟨_, pss_cons (ps_set (i := 1) sc12.nd rfl (.inl rfl) (pe_callB call_len_seq (by rfl) T.len PySem.boot_len (pa_cons (pv 0) pa_nil)))
      (pss_cons (ps_for PassesOwn.never rfl (pi_range1 rfl T.range (pa_cons (pv 1) pa_nil)) (pg_name (i := 2) sc12.nd rfl (Or.inl rfl))
        (pss_one (ps_for PassesOwn.never rfl (pi_range1 rfl T.range (pa_cons (pv 1) pa_nil)) (pg_name (i := 3) sc12.nd rfl (Or.inl rfl))
          (pss_one (ps_for PassesOwn.never rfl (pi_range1 rfl T.range (pa_cons (pv 1) pa_nil)) (pg_name (i := 4) sc12.nd rfl (Or.inl rfl))
            (pss_one (ps_if (PW.pt (pw_and (pt_cmpR op_eq (pe_lenD (by rfl) T.len hcd (pv 2) (pv 3) (pv 4)) pe_int (nomark _))
              (pw_and1 (pt_val (pe_call G10 hr1 (by rfl) T.d10.g T.d10.F.kp T.d10.b .nil pass0 (pa_cons (pe_call G8 hr (by rfl) T.d8.g T.d8.F.kp T.d8.b .nil pass0
                (pa_cons (pe_ix (ixlK K) (pe_ix (ixlK K) (pv 0) (pv 2) (fun _ _ => rfl)) (pv 3) (fun _ _ => rfl)) (pa_cons (pe_ix (ixlK K) (pe_ix (ixlK K) (pv 0) (pv 3) (fun _ _ => rfl)) (pv 4) (fun _ _ => rfl)) pa_nil)))
                (pa_cons (pe_ix (ixlK K) (pe_ix (ixlK K) (pv 0) (pv 2) (fun _ _ => rfl)) (pv 4) (fun _ _ => rfl)) pa_nil)))))))
              (pss_one ps_never) pss_nil)))))))
      (pss_one (ps_ret pe_non))), ?_⟩
    obtain ⟨xs, hx, hxl, _⟩ := id hG
    refine ⟨_, rfl, a, xs, rfl, .inl hx, ?_⟩
    rw [hxl]
    refine ⟨_, rfl, n, rfl, by omega, by omega, ?_⟩
    refine for_range (n := n) (fun i σ H' => ∃ y2 y3 y4, σ = [some (.ref a), some (.int (n : Int)), y2, y3, y4] ∧ Same H H') ⟨none, none, none, rfl, Same.refl _⟩ (fun i σ H' hi h => ?_) (fun σ H' h => ?_)
    · obtain ⟨y2, y3, y4, rfl, sm⟩ := h
      rw [Int.zero_add]
      refine ⟨_, rfl, n, rfl, by omega, by omega, ?_⟩
      refine for_range (n := n) (fun j σ H' => ∃ y3 y4, σ = [some (.ref a), some (.int (n : Int)), some (.int (i : Int)), y3, y4] ∧ Same H H') ⟨y3, y4, rfl, sm⟩ (fun j σ H' hj h => ?_) (fun σ H' h => ?_)
      · obtain ⟨y3, y4, rfl, sm⟩ := h
        rw [Int.zero_add]
        refine ⟨_, rfl, n, rfl, by omega, by omega, ?_⟩
        refine for_range (n := n) (fun k σ H' => ∃ y4, σ = [some (.ref a), some (.int (n : Int)), some (.int (i : Int)), some (.int (j : Int)), y4] ∧ Same H H') ⟨y4, rfl, sm⟩ (fun k σ H' hk h => ?_) (fun σ H' h => ?_)
        · obtain ⟨y4, rfl, sm⟩ := h
          rw [Int.zero_add]
          have hG' := hG.same mono_fr sm
          refine ⟨_, rfl, _, rfl, _, rfl, (i : Int), (j : Int), (k : Int), rfl, rfl, rfl, rfl, rfl, _, rfl, ?_⟩
          by_cases h3 : cnt3 (i : Int) (j : Int) (k : Int) = 3
          · rw [show decide (V.int ((cnt3 (i : Int) (j : Int) (k : Int) : Nat) : Int) = V.int 3) = true from decide_eq_true (by rw [h3]; rfl)]
            obtain ⟨n1, n2, n3⟩ := cnt3_three.mp h3
            refine iteT ?_
            refine rdT (i := i) (j := j) hG' rfl rfl rfl hi hj fun v1 hv1 => rdT (i := j) (j := k) hG' rfl rfl rfl hj hk fun v2 hv2 => ?_
            refine ⟨[], v1, v2, _, _, rfl, Live.nil, by rw [hid_nil]; exact hv1, by rw [hid_nil]; exact hv2, hs.frS hi hj, hs.frS hj hk, fun v H2 sm2 hv => ?_⟩
            rw [hid_nil, plusF_fr hs.pos] at hv
            refine rdT (i := i) (j := k) (hG'.same mono_fr sm2) rfl rfl rfl hi hk fun v3 hv3 => ?_
            refine ⟨v, v3, _, _, rfl, hv, hv3, hs.sum hs hi hj hj hk, hs.frS hi hk, _, rfl, ?_⟩
            rw [decide_eq_false (fun z => absurd ((below_fr hs.pos).mp z) (by have := hlong i j k hi hj hk n1 n2 n3; omega))]
            exact iteF ⟨_, rfl, sm.trans sm2⟩
          · rw [show decide (V.int ((cnt3 (i : Int) (j : Int) (k : Int) : Nat) : Int) = V.int 3) = false from decide_eq_false fun z => h3 (by have := V.int.inj z; omega)]
            exact iteF (iteF ⟨_, rfl, sm⟩)
        · obtain ⟨y4, rfl, sm⟩ := h
          exact ⟨_, _, rfl, sm⟩
      · obtain ⟨y3, y4, rfl, sm⟩ := h
        exact ⟨_, _, _, rfl, sm⟩
    · obtain ⟨y2, y3, y4, rfl, sm⟩ := h
      exact q _ sm
def spNeed (K : PySem.W.Frag) : Sp := spShort K
theorem sc20 : FnScope ["table"] ["table"] (defScope (top 20)) := ⟨rfl, rfl, rfl, by decide +kernel, rfl, by decide +kernel, by decide +kernel⟩
theorem ok20 (T : Txt K mg ad fd) : FnOk P w K mg base CX0 5 (ad 20) (fd 20) ["table"] (spNeed K) := by
  have G12 : FnOk P w K mg base CX0 4 (ad 12) (fd 12) ["table"] (spShort K) := ok12 T
  refine T.d20.F.ok sc20 (fun vs H Q E h => ?_) (fun cdv A outer s H vs Q E hr h => ?_)
  · obtain ⟨v, n, D, A, rfl, _⟩ := h
    rfl
  · obtain ⟨v, n, D, M, rfl, ht, hs, hn, hlong, q⟩ := h
    refine ⟨_, pss_one (ps_if (pt_cmpR op_notN (pe_call G12 hr (by rfl) T.d12.g T.d12.F.kp T.d12.b .nil pass0 (pa_cons (pv 0) pa_nil)) pe_non (nomark _)) (pss_one ps_never) pss_nil), ?_⟩
    refine ⟨_, rfl, v, n, D, M, rfl, ht, hs, hn, hlong, fun H' sm => ⟨rfl, _, rfl, iteF ?_⟩⟩
    exact q H' sm
end
end K57
end

section
set_option Elab.async false
set_option linter.all false
set_option maxRecDepth 100000
set_option maxHeartbeats 4000000
set_option exponentiation.threshold 10000
namespace K57
open PySem PySem.Spec PyProof.Rows L2
/-! ### things as data -/
theorem beq_dec (a b : Int) : (a == b) = decide (a = b) := by
  by_cases h : a = b <;> simp [h]
structure Enc (K : PySem.W.Frag) {α : Type} [DecidableEq α] (R : Rl α) (e : α → PyData) (d : Nat) : Prop where
  dp : ∀ H v a, R H v a → Dp K H v (e a)
  lay : ∀ a, (e a).canLay0 = true
  dep : ∀ a, (e a).depth ≤ d
  eqv : ∀ a b, PyData.eqv (e a) (e b) = decide (a = b)
  alk : ∀ a b, PySem.W.alike (e a) (e b) = true
section
variable {K : PySem.W.Frag} {α β : Type} [DecidableEq α] [DecidableEq β]
theorem enc_int : Enc K IntV PyData.int 0 where
  dp := fun H v a h => by cases (show v = V.int a from h); exact .int a
  lay := fun a => by simp [PyData.canLay0]
  dep := fun a => by simp [PyData.depth]
  eqv := fun a b => by
    show (PyData.eqv (.int a) (.int b)) = _
    simp only [PyData.eqv]
    exact beq_dec a b
  alk := fun a b => by simp [PySem.W.alike]
theorem enc_nat : Enc K NatV (fun n => PyData.int (n : Int)) 0 where
  dp := fun H v a h => by cases (show v = V.int (a : Int) from h); exact .int _
  lay := fun a => by simp [PyData.canLay0]
  dep := fun a => by simp [PyData.depth]
  eqv := fun a b => by
    simp only [PyData.eqv]
    rw [beq_dec]
    exact decide_eq_decide.mpr (by omega)
  alk := fun a b => by simp [PySem.W.alike]
def frD (q : Int × Int) : PyData := .tuple [.int q.1, .int q.2]
theorem enc_fr : Enc K (FrV K) frD 1 where
  dp := fun H v a ⟨t, e, h⟩ => by
    subst e
    exact .tup h (.cons (.int _) (.cons (.int _) .nil))
  lay := fun a => by simp [frD, PyData.canLay0, PyData.canLayAll0]
  dep := fun a => by simp [frD, PyData.depth, PyData.depthAll]
  eqv := fun a b => by
    unfold frD
    simp only [PyData.eqv, PyData.eqvAll, Bool.and_true]
    rw [beq_dec, beq_dec, ← Bool.decide_and]
    exact decide_eq_decide.mpr (by rw [Prod.ext_iff])
  alk := fun a b => by simp [frD, PySem.W.alike, PySem.W.alikeAll]
theorem lay_all {e : α → PyData} (h : ∀ a, (e a).canLay0 = true) : ∀ l : List α, PyData.canLayAll0 (l.map e) = true
  | [] => by simp [PyData.canLayAll0]
  | a :: l => by simp [PyData.canLayAll0, h a, lay_all h l]
theorem dep_all {e : α → PyData} {d : Nat} (h : ∀ a, (e a).depth ≤ d) : ∀ l : List α, PyData.depthAll (l.map e) ≤ d
  | [] => by simp [PyData.depthAll]
  | a :: l => by
    have h1 := h a
    have h2 := dep_all h l
    simp only [List.map_cons, PyData.depthAll]
    omega
theorem eqv_all {e : α → PyData} (h : ∀ a b, PyData.eqv (e a) (e b) = decide (a = b)) : ∀ l m : List α, PyData.eqvAll (l.map e) (m.map e) = decide (l = m)
  | [], [] => by simp [PyData.eqvAll]
  | [], _ :: _ => by simp [PyData.eqvAll]
  | _ :: _, [] => by simp [PyData.eqvAll]
  | a :: l, b :: m => by
    simp only [List.map_cons, PyData.eqvAll]
    rw [h a b, eqv_all h l m, ← Bool.decide_and]
    exact decide_eq_decide.mpr (by rw [List.cons.injEq])
theorem alk_all {e : α → PyData} (h : ∀ a b, PySem.W.alike (e a) (e b) = true) : ∀ l m : List α, PySem.W.alikeAll (l.map e) (m.map e) = true
  | [], _ => by simp [PySem.W.alikeAll]
  | _ :: _, [] => by simp [PySem.W.alikeAll]
  | a :: l, b :: m => by simp [PySem.W.alikeAll, h a b, alk_all h l m]
theorem dp_all {R : Rl α} {e : α → PyData} (h : ∀ H v a, R H v a → Dp K H v (e a)) {H : Hp} : ∀ {xs : List V} {l : List α}, Paired (R H) xs l → DpAll K H xs (l.map e)
  | _, _, .nil => .nil
  | _, _, .cons r t => .cons (h _ _ _ r) (dp_all h t)
theorem enc_ls {R : Rl α} {e : α → PyData} {d : Nat} (E : Enc K R e d) : Enc K (LsV K R) (fun l => PyData.list (l.map e)) (d + 1) where
  dp := fun H v a ⟨p, xs, h1, h2, h3⟩ => by
    subst h1
    exact .lst (.of h2) (dp_all E.dp h3)
  lay := fun a => by simp only [PyData.canLay0]; exact lay_all E.lay a
  dep := fun a => by
    simp only [PyData.depth]
    have := dep_all E.dep a
    omega
  eqv := fun a b => by
    simp only [PyData.eqv]
    exact eqv_all E.eqv a b
  alk := fun a b => by
    simp only [PySem.W.alike]
    exact alk_all E.alk a b
theorem enc_pr {R : Rl α} {S : Rl β} {e : α → PyData} {g : β → PyData} {d d' : Nat} (E : Enc K R e d) (G : Enc K S g d') : Enc K (PrV K R S) (fun p => PyData.tuple [e p.1, g p.2]) (max d d' + 1) where
  dp := fun H v a ⟨p, x, y, h1, h2, h3, h4⟩ => by
    subst h1
    exact .tup h2 (.cons (E.dp _ _ _ h3) (.cons (G.dp _ _ _ h4) .nil))
  lay := fun a => by simp [PyData.canLay0, PyData.canLayAll0, E.lay, G.lay]
  dep := fun a => by
    have h1 := E.dep a.1
    have h2 := G.dep a.2
    simp only [PyData.depth, PyData.depthAll]
    omega
  eqv := fun a b => by
    simp only [PyData.eqv, PyData.eqvAll, Bool.and_true]
    rw [E.eqv, G.eqv, ← Bool.decide_and]
    exact decide_eq_decide.mpr (by rw [Prod.ext_iff])
  alk := fun a b => by simp [PySem.W.alike, PySem.W.alikeAll, E.alk, G.alk]
theorem Enc.shaped {R : Rl α} {e : α → PyData} {d : Nat} (E : Enc K R e d) (hd : d ≤ 64) (a : α) : SeqAt.shaped (e a) = true := by
  unfold SeqAt.shaped
  rw [E.lay, Bool.true_and]
  exact decide_eq_true (Nat.le_trans (E.dep a) hd)
theorem Enc.eq {R : Rl α} {e : α → PyData} {d : Nat} (E : Enc K R e d) (hd : d ≤ 64) {H : Hp} {x y : V} {a b : α} {Q : VK} (ha : R H x a) (hb : R H y b) (q : Q (.bl (decide (a = b))) H) : rEqD K x y H Q :=
  ⟨e a, e b, E.dp _ _ _ ha, E.dp _ _ _ hb, E.shaped hd a, E.shaped hd b, by rw [E.eqv]; exact q⟩
theorem Enc.ne {R : Rl α} {e : α → PyData} {d : Nat} (E : Enc K R e d) (hd : d ≤ 64) {H : Hp} {x y : V} {a b : α} {Q : VK} (ha : R H x a) (hb : R H y b) (q : Q (.bl (!decide (a = b))) H) : rNeD K x y H Q :=
  ⟨e a, e b, E.dp _ _ _ ha, E.dp _ _ _ hb, E.shaped hd a, E.shaped hd b, by rw [E.eqv]; exact q⟩
end
theorem ls_nil {K : PySem.W.Frag} {α : Type} {R : Rl α} {H : Hp} {p : Addr} (h : H p = some (.lst [])) : LsV K R H (.ref p) [] := ⟨p, [], rfl, h, .nil⟩
section
variable {P : Program} {w : World} {K : PySem.W.Frag} {mg : Str → Option Value} {base : Heap} {ad : Nat → Addr} {fd : Nat → FuncData}
/-! ### part_of -/
theorem lenSetK (K : PySem.W.Frag) {X : Cx} {a : Expr} {ta : TE} {p p2 q pos : Pos} (hg : Gl X "len") (hm : X.mg "len" = none) (hg2 : Gl X "set") (hm2 : X.mg "set" = none) (ha : PE X a ta) (hc : X.calm = true := by rfl) (hK : X.K = K := by rfl)
    (na : starEach [a] X.env = (false, eval a X.env) :: starEach [] X.env := by rfl) : PE X (.Call (.Name "len" p) [.Call (.Name "set" p2) [a] [] q] [] pos) (RZ.tLenSetI K ta) := hK ▸ RZ.pe_lenSetI hg hm hg2 hm2 ha hc na
def spPart (K : PySem.W.Frag) : Sp := fun vs H Q _ => ∃ (l : List Addr) (u v : V) (n : Nat) (D : Int) (A : Mx) (pts : List Nat), vs = [u, v] ∧ Live l H ∧ TabV K (hid l H) u (tabF n D A) ∧ LsV K NatV (hid l H) v pts ∧
  pts.Nodup ∧ pts ≠ [] ∧ (∀ x ∈ pts, x < n) ∧ n ≤ 1000 ∧ pts.length ≤ 1000 ∧ ∀ r H', Same H H' → TabV K (hid l H') r (tabF pts.length D fun i j => A (pts.getD i 0) (pts.getD j 0)) → Q r H'
theorem sc13 : FnScope ["table", "points", "point", "one", "other"] ["table", "points"] (defScope (top 13)) := ⟨rfl, rfl, rfl, by decide +kernel, rfl, by decide +kernel, by decide +kernel⟩
theorem nat_int (l : List Nat) : natsV l = (l.map fun n : Nat => (n : Int)).map V.int := by rw [List.map_map]; rfl
theorem nodup_int {l : List Nat} (h : l.Nodup) : (l.map fun n : Nat => (n : Int)).Nodup := List.Pairwise.map _ (fun a b hab e => hab (by omega)) h
theorem natsV_get {l : List Nat} {i : Nat} (h : i < l.length) : (natsV l)[i]? = some (.int ((l.getD i 0 : Nat) : Int)) := by
  rw [List.getElem?_map, List.getElem?_eq_getElem h, List.getD_eq_getElem?_getD, List.getElem?_eq_getElem h]
  rfl
theorem getD_mem {l : List Nat} {i : Nat} (h : i < l.length) : l.getD i 0 ∈ l := by
  rw [List.getD_eq_getElem?_getD, List.getElem?_eq_getElem h]
  exact List.getElem_mem h
theorem nats_at {l : List Nat} {i : Nat} {x : V} (hi : i < l.length) (h : (natsV l)[i]? = some x) : x = .int ((l.getD i 0 : Nat) : Int) := Option.some.inj (h.symm.trans (natsV_get hi))
abbrev N13 : List Str := ["table", "points", "point", "one", "other"]
abbrev bk13 : Scope := { kind := .function, names := [(".0", .local), ("one", .cell), ("points", .free), ("table", .free)], isGenerator := false, isCoroutine := false }
theorem ok13 (T : Txt K mg ad fd) : FnOk P w K mg base CX0 1 (ad 13) (fd 13) ["table", "points"] (spPart K) := by
  refine T.d13.F.ok sc13 (fun vs H Q E h => ?_) (fun cdv A outer s H vs Q E hr h => ?_)
  · obtain ⟨l, u, v, n, D, M, pts, rfl, _⟩ := h
    rfl
  · obtain ⟨l, u, v, n, D, M, pts, rfl, lv, ht, hp, hnd, hne, hlt, hn, hm, q⟩ := h
    obtain ⟨a, rfl, hG⟩ := grid_at ht
    obtain ⟨b, rfl, hbT⟩ := ls_natT hp
    have hb : SqL K (hid l H) b (natsV pts) := .of hbT
    refine ⟨_, pss_cons (ps_if (PW.pt (pw_or (pt_cmpR (eqK K hr.units) (pv 1) (pe_lst pa_nil) (nomark _)) (pw_or1 (pt_cmpR op_lt (lenSetK K (by rfl) T.len (by rfl) T.set (pv 1)) (pe_callB call_len_seq (by rfl) T.len PySem.boot_len (pa_cons (pv 1) pa_nil)) (nomark _))))) (pss_one ps_never) pss_nil)
      (pss_cons (ps_if (pt_cmpR (neK K hr.units) (pe_lc (own := [("point", 2)]) (g := gName 2) (by rfl) sc13.nd (pi_list (pv 1)) (blkOk_by (own := [("point", 2)]) (N := N13) (sc := defScope (top 13)) (by decide +kernel))
          (fun _ _ _ _ _ => pg_name (i := 2) sc13.nd rfl (Or.inl rfl)) (fun _ _ _ _ _ => pts_one (pt_not (pt_chain op_le op_lt pe_int (pv 2) (pe_callB (lenK K) (by rfl) T.len PySem.boot_len (pa_cons (pv 0) pa_nil))))) (fun _ _ _ _ _ => pv 2)) (pe_lst pa_nil) (nomark _)) (pss_one ps_never) pss_nil)
      (pss_one (ps_ret (pe_lc (own := [("one", 3)]) (g := gName 3) (by rfl) sc13.nd (pi_list (pv 1)) (blkOk_by (own := [("one", 3)]) (N := N13) (sc := defScope (top 13)) (by decide +kernel))
          (fun _ _ _ _ _ => pg_name (i := 3) sc13.nd rfl (Or.inr rfl)) (fun _ _ _ _ _ => pts_nil) (fun _ _ _ _ _ =>
            pe_lc (own := [("other", 4)]) (g := gName 4) (by rfl) sc13.nd (lstK K (pv 1)) (blkOk_by (own := [("other", 4)]) (N := N13) (sc := relS bk13 (defScope (top 13))) (by decide +kernel))
              (fun _ _ _ _ _ => pg_name (i := 4) sc13.nd rfl (Or.inl rfl)) (fun _ _ _ _ _ => pts_nil) (fun _ _ _ _ _ => pe_ix (ixlK K) (pe_ix (ixlK K) (pv 0) (pv 3) (fun _ _ => rfl)) (pv 4) (fun _ _ => rfl))))))), ?_⟩
    -- points == []
    refine ⟨_, rfl, Nat.zero_le _, fun p1 np1 => ?_⟩
    have s1 : Same H (upd H p1 (.lst [])) := same_new np1
    refine Enc.eq (enc_ls (enc_nat (K := K))) (by decide) (ls_nat_of (s1 _ _ (hid_sub _ _ hbT))) (ls_nil upd_same) ⟨_, rfl, ?_⟩
    rw [decide_eq_false hne]
    refine iteF ?_
    -- len(set(points)) < len(points)
    refine ⟨_, rfl, b, _, rfl, by rw [← nat_int]; exact up_seq s1 hb, nodup_int hnd, by rw [List.length_map]; omega, _, rfl, b, _, rfl, .inl (up_seq s1 hb), _, _, rfl, rfl, _, rfl, ?_⟩
    rw [show decide ((((pts.map fun n : Nat => (n : Int)).length : Nat) : Int) < (((natsV pts).length : Nat) : Int)) = false from decide_eq_false (by rw [List.length_map, List.length_map]; omega)]
    refine iteF ?_
    -- [..] != []
    refine ⟨_, rfl, b, rfl, ⟨_, up_seq s1 hb⟩, fun D1 nD1 => ?_⟩
    refine lc_gen (walk_list (xs := natsV pts)) (l := l) mono_nat (fun _ => none) nD1 (lv.same s1) (by rw [List.length_map]; exact Nat.le_of_lt (small1000 hm)) (fun H2 sm2 => up_seq (s1.trans sm2) hb) (fun i x H2 H3 Put Skip hi sm2 hacc hy hput hskip => ?_) (fun H2 sm2 hM => ?_)
    · obtain ⟨rfl, hx⟩ := hy
      rw [List.length_map] at hi
      obtain rfl := nats_at hi hx
      have hlt' := hlt _ (getD_mem hi)
      obtain ⟨xs, hxs, hxl, _⟩ := id hG
      refine ⟨rfl, _, rfl, 0, _, rfl, rfl, _, rfl, ?_⟩
      rw [show decide ((0 : Int) ≤ ((pts.getD i 0 : Nat) : Int)) = true from decide_eq_true (by omega)]
      refine iteT ⟨_, rfl, a, xs, rfl, .inl (up_seq (s1.trans sm2) hxs), _, _, rfl, rfl, _, rfl, ?_⟩
      rw [show decide (((pts.getD i 0 : Nat) : Int) < ((xs.length : Nat) : Int)) = true from decide_eq_true (by omega)]
      exact iteF (hskip _ (Same.refl _) rfl)
    · have sm3 := s1.trans sm2
      have e0 : fm (fun _ => (none : Option Nat)) (natsV pts).length = [] := by
        unfold fm
        simp
      rw [e0] at hM
      refine ⟨Nat.zero_le _, fun p2 np2 => ?_⟩
      have s4 : Same H2 (upd H2 p2 (.lst [])) := same_new np2
      refine Enc.ne (enc_ls (enc_nat (K := K))) (by decide) (mono_ls mono_nat _ _ _ _ (Same.trans (hid_mono s4) hid_sub) (hM.ls mono_nat)) (ls_nil upd_same) ⟨_, rfl, ?_⟩
      refine iteF ?_
      -- the part
      have s5 := sm3.trans s4
      refine ⟨_, rfl, b, rfl, ⟨_, up_seq s5 hb⟩, fun D2 nD2 => ?_⟩
      refine lc_all (walk_list (xs := natsV pts)) (l := l) (mono_ls (K := K) (mono_fr (K := K))) (fun i => (List.range pts.length).map fun j => fr (M (pts.getD i 0) (pts.getD j 0)) D) nD2 (lv.same s5) (by rw [List.length_map]; exact Nat.le_of_lt (small1000 hm)) (fun H3 sm3 => up_seq (s5.trans sm3) hb)
        (fun i x H3 H4 Put hi sm3 lv3 hy hput => ?_) (fun H3 sm3 hM3 => ?_)
      · obtain ⟨rfl, hx⟩ := hy
        rw [List.length_map] at hi
        obtain rfl := nats_at hi hx
        have s6 := s5.trans sm3
        refine ⟨rfl, _, rfl, b, rfl, ⟨_, up_seq s6 hb⟩, fun D3 nD3 => ?_⟩
        refine lc_all (walk_list (xs := natsV pts)) (l := D2 :: l) (mono_fr (K := K)) (fun j => fr (M (pts.getD i 0) (pts.getD j 0)) D) nD3 lv3 (by rw [List.length_map]; exact Nat.le_of_lt (small1000 hm)) (fun H5 sm5 => up_seq (s6.trans sm5) hb)
          (fun j y H5 H6 Put5 hj sm5 lv5 hy5 hput5 => ?_) (fun H5 sm5 hM5 => ?_)
        · obtain ⟨rfl, hx5⟩ := hy5
          rw [List.length_map] at hj
          obtain rfl := nats_at hj hx5
          have s7 := s6.trans sm5
          have hG6 : GridAt K (FrV K) (hid (D3 :: D2 :: l) H6) a n fun i j => fr (M i j) D := hG.same mono_fr (hid_push2 s7 (s5.free nD2) (s6.free nD3))
          refine ⟨rfl, ?_⟩
          obtain ⟨xs, h1, _, h2⟩ := hG6
          obtain ⟨ra, ys, h3, h4, _, h5⟩ := h2 _ (hlt _ (getD_mem hi))
          obtain ⟨v, h6, h7⟩ := h5 _ (hlt _ (getD_mem hj))
          exact ⟨_, rfl, _, rfl, a, xs, _, .ref ra, rfl, rfl, hid_sub.seq h1, atI_nat h3, _, rfl, ra, ys, _, v, rfl, rfl, hid_sub.seq h4, atI_nat h6, hput5 _ _ (Same.refl _) h7⟩
        · refine hput _ _ sm5 ?_
          have e := hM5.ls (K := K) mono_fr
          rw [List.length_map] at e
          exact e
      · have e := hM3.ls (K := K) (mono_ls mono_fr)
        rw [List.length_map] at e
        exact q _ _ (s5.trans sm3) e
end
end K57
end

section
set_option Elab.async false
set_option linter.all false
set_option maxRecDepth 100000
set_option maxHeartbeats 4000000
set_option exponentiation.threshold 10000
namespace K57
open PySem PySem.Spec PyProof.Rows L2
section
variable {P : Program} {w : World} {K : PySem.W.Frag} {mg : Str → Option Value} {base : Heap} {ad : Nat → Addr} {fd : Nat → FuncData}
/-! ### added -/
theorem mono_frK (K : PySem.W.Frag) : Mono (FrV K) := mono_fr
theorem mono_rowK (K : PySem.W.Frag) : Mono (LsV K (FrV K)) := mono_ls mono_fr
theorem mono_tabK (K : PySem.W.Frag) : Mono (TabV K) := mono_ls (mono_ls mono_fr)
def spAdded (K : PySem.W.Frag) : Sp := fun vs H Q _ => ∃ (l : List Addr) (u v : V) (n : Nat) (D : Int) (A B : Mx), vs = [u, v] ∧ Live l H ∧ TabV K (hid l H) u (tabF n D A) ∧ TabV K (hid l H) v (tabF n D B) ∧
  TabS n D A ∧ TabS n D B ∧ n ≤ 1000 ∧ ∀ r H', Same H H' → TabV K (hid l H') r (tabF n D fun i j => A i j + B i j) → Q r H'
abbrev N14 : List Str := ["table", "other", "row", "other_row", "one", "more"]
abbrev bk14 : Scope := { kind := .function, names := [(".0", .local), ("row", .local), ("other_row", .local), ("zip", .globalImplicit)], isGenerator := false, isCoroutine := false }
theorem sc14 : FnScope N14 ["table", "other"] (defScope (top 14)) := ⟨rfl, rfl, rfl, by decide +kernel, rfl, by decide +kernel, by decide +kernel⟩
theorem ok14 (T : Txt K mg ad fd) : FnOk P w K mg base CX0 4 (ad 14) (fd 14) ["table", "other"] (spAdded K) := by
  have G8 : FnOk P w K mg base CX0 3 (ad 8) (fd 8) ["q", "r"] (spBin K plusF) := ok8 T
  refine T.d14.F.ok sc14 (fun vs H Q E h => ?_) (fun cdv A outer s H vs Q E hr h => ?_)
  · obtain ⟨l, u, v, n, D, A, B, rfl, _⟩ := h
    rfl
  · obtain ⟨l, u, v, n, D, M, M', rfl, lv, ht, ht', hs, hs', hn, q⟩ := h
    obtain ⟨a, rfl, hG⟩ := grid_at ht
    obtain ⟨b, rfl, hG'⟩ := grid_at ht'
    obtain ⟨xs, hxs, hxl, hrow⟩ := id hG
    obtain ⟨ys, hys, hyl, hrow'⟩ := id hG'
    refine ⟨_, pss_cons (ps_if (pt_cmpR op_ne (pe_callB call_len_seq (by rfl) T.len PySem.boot_len (pa_cons (pv 0) pa_nil)) (pe_callB call_len_seq (by rfl) T.len PySem.boot_len (pa_cons (pv 1) pa_nil)) (nomark _)) (pss_one ps_never) pss_nil)
      (pss_one (ps_ret (pe_lc (own := [("row", 2), ("other_row", 3)]) (g := gTup K 2 _) (by rfl) sc14.nd (zipK K (by rfl) T.zip (pa_cons (pv 0) (pa_cons (pv 1) pa_nil))) (blkOk_by (own := [("row", 2), ("other_row", 3)]) (N := N14) (sc := defScope (top 14)) (by decide +kernel))
          (fun _ _ _ _ _ => tgK K (by rfl) (pgs_cons (pg_name (i := 2) sc14.nd rfl (.inl rfl)) (pgs_cons (pg_name (i := 3) sc14.nd rfl (.inl rfl)) pgs_nil))) (fun _ _ _ _ _ => pts_nil) (fun _ _ _ _ _ =>
            pe_lc (own := [("one", 4), ("more", 5)]) (g := gTup K 2 _) (by rfl) sc14.nd (zipK K (by rfl) T.zip (pa_cons (pv 2) (pa_cons (pv 3) pa_nil))) (blkOk_by (own := [("one", 4), ("more", 5)]) (N := N14) (sc := relS bk14 (defScope (top 14))) (by decide +kernel))
              (fun _ _ _ _ _ => tgK K (by rfl) (pgs_cons (pg_name (i := 4) sc14.nd rfl (.inl rfl)) (pgs_cons (pg_name (i := 5) sc14.nd rfl (.inl rfl)) pgs_nil))) (fun _ _ _ _ _ => pts_nil)
              (fun _ _ _ _ _ => pe_call G8 hr (by rfl) T.d8.g T.d8.F.kp T.d8.b .nil pass0 (pa_cons (pv 4) (pa_cons (pv 5) pa_nil))))))), ?_⟩
    refine ⟨_, rfl, a, xs, rfl, .inl (up_seq (Same.refl _) hxs), _, rfl, b, ys, rfl, .inl (up_seq (Same.refl _) hys), rfl, _, rfl, ?_⟩
    rw [hxl, hyl, decide_eq_true rfl]
    refine iteF ?_
    refine ⟨_, rfl, _, rfl, a, b, xs, ys, rfl, up_seq (Same.refl _) hxs, up_seq (Same.refl _) hys, fun D1 nD1 => ?_⟩
    refine lc_all (walk_zip (xs := xs) (ys := ys) (n := n) (by rw [hxl, hyl, Nat.min_self])) (l := l) (mono_rowK K) (fun i => (List.range n).map fun j => fr (M i j + M' i j) D) nD1 lv (Nat.le_of_lt (small1000 hn)) (fun H2 sm2 => ⟨up_seq sm2 hxs, up_seq sm2 hys⟩)
      (fun i x H2 H3 Put hi sm2 lv2 hy hput => ?_) (fun H2 sm2 hM => q _ _ sm2 (hM.ls (mono_rowK K)))
    obtain ⟨t1, x1, y1, rfl, nt1, rfl, e1, e2⟩ := hy
    obtain ⟨ra, us, r1, r2, r3, r4⟩ := hrow i hi
    obtain ⟨rb, ws, r5, r6, r7, r8⟩ := hrow' i hi
    cases e1.symm.trans r1
    cases e2.symm.trans r5
    have s3 : Same H2 (upd H2 t1 (.tup [.ref ra, .ref rb])) := same_new nt1
    have sH := sm2.trans s3
    refine ⟨t1, [.ref ra, .ref rb], rfl, .inl (.inl upd_same), rfl, _, _, rfl, _, [], rfl, rfl, rfl, ?_⟩
    refine ⟨_, rfl, _, rfl, ra, rb, us, ws, rfl, up_seq sH r2, up_seq sH r6, fun D2 nD2 => ?_⟩
    refine lc_all (walk_zip (xs := us) (ys := ws) (n := n) (by rw [r3, r7, Nat.min_self])) (l := D1 :: l) (mono_frK K) (fun j => fr (M i j + M' i j) D) nD2 (lv2.same s3) (Nat.le_of_lt (small1000 hn)) (fun H5 sm5 => ⟨up_seq (sH.trans sm5) r2, up_seq (sH.trans sm5) r6⟩)
      (fun j y H5 H6 Put5 hj sm5 lv5 hy5 hput5 => ?_) (fun H5 sm5 hM5 => hput _ _ (s3.trans sm5) (hM5.ls (mono_frK K)))
    obtain ⟨t2, x2, y2, rfl, nt2, rfl, e3, e4⟩ := hy5
    obtain ⟨v1, p1, p2⟩ := r4 j hj
    obtain ⟨v2, p3, p4⟩ := r8 j hj
    cases e3.symm.trans p1
    cases e4.symm.trans p3
    have s5 : Same H5 (upd H5 t2 (.tup [x2, y2])) := same_new nt2
    have s6 := sH.trans (sm5.trans s5)
    have sh : Same (hid l H) (hid (D2 :: D1 :: l) (upd H5 t2 (.tup [x2, y2]))) := hid_push2 s6 nD1 (sH.free nD2)
    refine ⟨t2, [x2, y2], rfl, .inl (.inl upd_same), rfl, _, _, rfl, _, [], rfl, rfl, rfl, ?_⟩
    refine ⟨_, rfl, _, rfl, D2 :: D1 :: l, x2, y2, _, _, rfl, lv5.same s5, mono_frK K _ _ _ _ sh p2, mono_frK K _ _ _ _ sh p4, hs.frS hi hj, hs'.frS hi hj, fun r H7 sm7 hr7 => ?_⟩
    rw [plusF_fr hs.pos] at hr7
    exact hput5 _ _ (s5.trans sm7) hr7
end
end K57
end

section
set_option Elab.async false
set_option linter.all false
set_option maxRecDepth 100000
set_option maxHeartbeats 4000000
set_option exponentiation.threshold 10000
namespace K57
open PySem PySem.Spec PyProof.Rows L2
section
variable {P : Program} {w : World} {K : PySem.W.Frag} {mg : Str → Option Value} {base : Heap} {ad : Nat → Addr} {fd : Nat → FuncData}
/-! ### table_of -/
theorem rd_upd {H : Hp} {t ra : Addr} {xs acc : List V} {o : HO} (h : SqT K H t xs) (hr : H ra = some (.lst acc)) : SqT K (upd H ra o) t xs := by
  rcases h with (h | ⟨u, h⟩) | h
  · refine .inl (.inl ?_)
    rw [upd_ne (fun e => by rw [e, hr] at h; cases h)]
    exact h
  · refine .inl (.inr ⟨u, ?_⟩)
    rw [upd_ne (fun e => by rw [e, hr] at h; cases h)]
    exact h
  · exact .inr h
theorem hid_upd {l : List Addr} {H : Hp} {a : Addr} {o : HO} (h : a ∉ l) : hid l (upd H a o) = upd (hid l H) a o := by
  funext b
  unfold hid upd
  by_cases h1 : b = a
  · subst h1
    rw [if_neg h, if_pos rfl, if_pos rfl]
  · rw [if_neg h1, if_neg h1]
theorem fr_upd {l : List Addr} {H : Hp} {v : V} {q : Int × Int} {ra : Addr} {acc : List V} {o : HO} (h : FrV K (hid l H) v q) (hr : H ra = some (.lst acc)) : FrV K (hid l (upd H ra o)) v q := by
  by_cases hm : ra ∈ l
  · rw [hid_write hm]
    exact h
  · obtain ⟨t, e, h⟩ := h
    rw [hid_upd hm]
    exact ⟨t, e, rd_upd h (by rw [hid_out hm]; exact hr)⟩
/-- a grid of fractions that is being written: the list at D, its rows at rs -/
def FoundAt (K : PySem.W.Frag) (l : List Addr) (H : Hp) (D : Addr) (n : Nat) (rs : List Addr) (Dn : Int) (W : Mx) : Prop :=
  H D = some (.lst (rs.map V.ref)) ∧ rs.length = n ∧ rs.Nodup ∧ D ∉ rs ∧ ∀ i r, rs[i]? = some r → ∃ acc, H r = some (.lst acc) ∧ acc.length = n ∧ ∀ j, j < n → ∃ v, acc[j]? = some v ∧ FrV K (hid l H) v (fr (W i j) Dn)
theorem FoundAt.same {l : List Addr} {H H' : Hp} {D : Addr} {n : Nat} {rs : List Addr} {Dn : Int} {W : Mx} (e : Same H H') (h : FoundAt K l H D n rs Dn W) : FoundAt K l H' D n rs Dn W := by
  obtain ⟨h1, h2, h3, h4, h5⟩ := h
  refine ⟨e _ _ h1, h2, h3, h4, fun i r hr => ?_⟩
  obtain ⟨acc, h6, h7, h8⟩ := h5 i r hr
  refine ⟨acc, e _ _ h6, h7, fun j hj => ?_⟩
  obtain ⟨v, h9, h10⟩ := h8 j hj
  exact ⟨v, h9, mono_fr _ _ _ _ (hid_mono e) h10⟩
theorem FoundAt.congr {l : List Addr} {H : Hp} {D : Addr} {n : Nat} {rs : List Addr} {Dn : Int} {W W' : Mx} (h : FoundAt K l H D n rs Dn W) (e : ∀ i j, i < n → j < n → W i j = W' i j) : FoundAt K l H D n rs Dn W' := by
  obtain ⟨h1, h2, h3, h4, h5⟩ := h
  refine ⟨h1, h2, h3, h4, fun i r hr => ?_⟩
  obtain ⟨acc, h6, h7, h8⟩ := h5 i r hr
  refine ⟨acc, h6, h7, fun j hj => ?_⟩
  have hi : i < n := by rw [← h2]; exact (List.getElem?_eq_some_iff.mp hr).1
  rw [← e i j hi hj]
  exact h8 j hj
/-- one place is written -/
theorem FoundAt.put {l : List Addr} {H : Hp} {D : Addr} {n : Nat} {rs : List Addr} {Dn : Int} {W : Mx} {i j : Nat} {r : Addr} {acc : List V} {v : V} {z : Int} (h : FoundAt K l H D n rs Dn W) (hr : rs[i]? = some r) (ha : H r = some (.lst acc)) (hj : j < n) (hv : FrV K (hid l H) v (fr z Dn)) :
    FoundAt K l (upd H r (.lst (acc.set j v))) D n rs Dn (fun x y => if x = i ∧ y = j then z else W x y) := by
  obtain ⟨h1, h2, h3, h4, h5⟩ := h
  have hmem : r ∈ rs := List.mem_of_getElem? hr
  have nD : D ≠ r := fun e => h4 (e ▸ hmem)
  refine ⟨by rw [upd_ne nD]; exact h1, h2, h3, h4, fun x r' hr' => ?_⟩
  obtain ⟨acc', h6, h7, h8⟩ := h5 x r' hr'
  by_cases hx : x = i
  · subst hx
    cases hr.symm.trans hr'
    rw [ha] at h6
    cases h6
    refine ⟨_, upd_same, by rw [List.length_set]; exact h7, fun y hy => ?_⟩
    by_cases hyj : y = j
    · subst hyj
      refine ⟨v, List.getElem?_set_self (by omega), ?_⟩
      show FrV K _ _ (fr (if x = x ∧ y = y then z else W x y) Dn)
      rw [if_pos ⟨rfl, rfl⟩]
      exact fr_upd hv ha
    · obtain ⟨u, h9, h10⟩ := h8 y hy
      refine ⟨u, by rw [List.getElem?_set_ne (Ne.symm hyj)]; exact h9, ?_⟩
      show FrV K _ _ (fr (if x = x ∧ y = j then z else W x y) Dn)
      rw [if_neg (fun q => hyj q.2)]
      exact fr_upd h10 ha
  · have nr : r' ≠ r := fun e => by
      subst e
      obtain ⟨l1, e1⟩ := List.getElem?_eq_some_iff.mp hr
      obtain ⟨l2, e2⟩ := List.getElem?_eq_some_iff.mp hr'
      exact hx ((List.getElem_inj h3).mp (e2.trans e1.symm))
    refine ⟨acc', by rw [upd_ne nr]; exact h6, h7, fun y hy => ?_⟩
    obtain ⟨u, h9, h10⟩ := h8 y hy
    refine ⟨u, h9, ?_⟩
    show FrV K _ _ (fr (if x = i ∧ y = j then z else W x y) Dn)
    rw [if_neg (fun q => hx q.1)]
    exact fr_upd h10 ha
theorem FoundAt.tab {l : List Addr} {H H0 : Hp} {D : Addr} {n : Nat} {rs : List Addr} {Dn : Int} {W : Mx} (h : FoundAt K l H D n rs Dn W) (lv : Live l H0) (nD : H0 D = none) (nr : ∀ r ∈ rs, H0 r = none) : TabV K (hid l H) (.ref D) (tabF n Dn W) := by
  obtain ⟨h1, h2, h3, h4, h5⟩ := h
  refine ⟨D, rs.map V.ref, rfl, (by rw [hid_out (lv.out nD)]; exact h1), ?_⟩
  unfold tabF matG
  have key : ∀ (k : Nat), k ≤ n → Paired (LsV K (FrV K) (hid l H)) ((rs.take k).map V.ref) ((List.range k).map fun i => (List.range n).map fun j => fr (W i j) Dn) := by
    intro k
    induction k with
    | zero => intro _; exact .nil
    | succ k ih =>
      intro hk
      have hr : rs[k]? = some (rs[k]'(by omega)) := List.getElem?_eq_getElem (by omega)
      rw [List.take_add_one, hr, List.range_succ, List.map_append, List.map_append]
      refine paired_append (ih (by omega)) ?_
      refine .cons ?_ .nil
      obtain ⟨acc, h6, h7, h8⟩ := h5 k _ hr
      refine ⟨_, acc, rfl, (by rw [hid_out (lv.out (nr _ (List.mem_of_getElem? hr)))]; exact h6), ?_⟩
      have key2 : ∀ m, m ≤ n → Paired (FrV K (hid l H)) (acc.take m) ((List.range m).map fun j => fr (W k j) Dn) := by
        intro m
        induction m with
        | zero => intro _; exact .nil
        | succ m ih =>
          intro hm
          obtain ⟨v, h9, h10⟩ := h8 m (by omega)
          rw [List.take_add_one, h9, List.range_succ, List.map_append]
          exact paired_append (ih (by omega)) (.cons h10 .nil)
      have e := key2 n (Nat.le_refl _)
      rw [List.take_of_length_le (by omega)] at e
      exact e
  have e := key n (Nat.le_refl _)
  rw [List.take_of_length_le (by omega)] at e
  exact e
end
end K57
end

section
set_option Elab.async false
set_option linter.all false
set_option maxRecDepth 100000
set_option maxHeartbeats 4000000
set_option exponentiation.threshold 10000
namespace K57
open PySem PySem.Spec PyProof.Rows L2
section
variable {P : Program} {w : World} {K : PySem.W.Frag} {mg : Str → Option Value} {base : Heap} {ad : Nat → Addr} {fd : Nat → FuncData}
abbrev CutsV (K : PySem.W.Frag) : Rl (List (List Nat × (Int × Int))) := LsV K (PrV K (LsV K NatV) (FrV K))
theorem mono_cutsK (K : PySem.W.Frag) : Mono (CutsV K) := mono_ls (mono_pr (mono_ls mono_nat) mono_fr)
def frC (D : Int) (cuts : List (List Nat × Int)) : List (List Nat × (Int × Int)) := cuts.map fun c => (c.1, fr c.2 D)
def spTable (K : PySem.W.Frag) : Sp := fun vs H Q _ => ∃ (l : List Addr) (v : V) (n : Nat) (D : Int) (cuts : List (List Nat × Int)), vs = [.int (n : Int), v] ∧ Live l H ∧ CutsV K (hid l H) v (frC D cuts) ∧
  0 < D ∧ Sm 1000 D ∧ (∀ c ∈ cuts, 0 ≤ c.2) ∧ Sm 1000 (totC cuts) ∧ n ≤ 1000 ∧ ∀ r H', Same H H' → TabV K (hid l H') r (tabF n D (sumC cuts)) → Q r H'
abbrev N18 : List Str := ["n", "cuts", "one", "other", "found", "cut", "weight"]
abbrev bk18 : Scope := { kind := .function, names := [(".0", .local), ("one", .local), ("range", .globalImplicit), ("n", .free)], isGenerator := false, isCoroutine := false }
theorem sc18 : FnScope N18 ["n", "cuts"] (defScope (top 18)) := ⟨rfl, rfl, rfl, by decide +kernel, rfl, by decide +kernel, by decide +kernel⟩
/-- what stands at turn (i, j) of the loops over the points -/
def midC (W : Mx) (c : List Nat × Int) (i j : Nat) : Mx := fun x y => W x y + if x < i ∨ (x = i ∧ y < j) then partC c x y else 0
theorem ok18 (T : Txt K mg ad fd) : FnOk P w K mg base CX0 4 (ad 18) (fd 18) ["n", "cuts"] (spTable K) := by
  have G8 : FnOk P w K mg base CX0 3 (ad 8) (fd 8) ["q", "r"] (spBin K plusF) := ok8 T
  refine T.d18.F.ok sc18 (fun vs H Q E h => ?_) (fun cdv A outer s H vs Q E hr h => ?_)
  · obtain ⟨l, v, n, D, cuts, rfl, _⟩ := h
    rfl
  · obtain ⟨l, v, n, Dn, cuts, rfl, lv, hc, hD, hDs, hw, htot, hn, q⟩ := h
    obtain ⟨t0, gN, hN⟩ := T.nought
    obtain ⟨b, zs, rfl, hz, hpz⟩ := hc
    have hz : SqL K (hid l H) b zs := .of hz
    refine ⟨_, pss_cons (ps_setLc (i := 4) (own := [("one", 2)]) (g := gName 2) (by rfl) sc18.nd rfl rfl (sw_true rfl rfl rfl (by decide +kernel)) (pi_range1 rfl T.range (pa_cons (pv 0) pa_nil)) (blkOk_by (own := [("one", 2)]) (N := N18) (sc := defScope (top 18)) (by decide +kernel))
          (fun _ _ _ _ _ => pg_name (i := 2) sc18.nd rfl (Or.inl rfl)) (fun _ _ _ _ _ => pts_nil) (fun _ _ _ _ _ =>
            pe_lc (own := [("other", 3)]) (g := gName 3) (by rfl) sc18.nd (pi_range1 (by rfl) T.range (pa_cons (pv 0) pa_nil)) (blkOk_by (own := [("other", 3)]) (N := N18) (sc := relS bk18 (defScope (top 18))) (by decide +kernel))
              (fun _ _ _ _ _ => pg_name (i := 3) sc18.nd rfl (Or.inl rfl)) (fun _ _ _ _ _ => pts_nil) (fun _ _ _ _ _ => pe_glob (v := .ref t0) (by rfl) gN rfl)))
      (pss_cons (ps_for PassesOwn.never rfl (pi_list (pv 1)) (tgK K rfl (pgs_cons (pg_name (i := 5) sc18.nd rfl (.inl rfl)) (pgs_cons (pg_name (i := 6) sc18.nd rfl (.inl rfl)) pgs_nil)))
        (pss_one (ps_for PassesOwn.never rfl (pi_range1 rfl T.range (pa_cons (pv 0) pa_nil)) (pg_name (i := 2) sc18.nd rfl (Or.inl rfl))
          (pss_one (ps_for PassesOwn.never rfl (pi_range1 rfl T.range (pa_cons (pv 0) pa_nil)) (pg_name (i := 3) sc18.nd rfl (Or.inl rfl))
            (pss_one (ps_if (pt_cmpR op_ne (pe_cmpR (inK K) (pv 2) (pv 5) (by rfl)) (pe_cmpR (inK K) (pv 3) (pv 5) (by rfl)) (nomark _))
              (pss_one (ps_asg (pe_call G8 hr (by rfl) T.d8.g T.d8.F.kp T.d8.b .nil pass0 (pa_cons (pe_ix (ixlK K) (pe_ix (ixlK K) (pv 4) (pv 2) (fun _ _ => rfl)) (pv 3) (fun _ _ => rfl)) (pa_cons (pv 6) pa_nil)))
                (pg_sub (pe_ix (ixlK K) (pv 4) (pv 2) (fun _ _ => rfl)) (pv 3) set_list)))
              pss_nil)))))))
      (pss_one (ps_ret (pv 4)))), ?_⟩
    -- found
    refine ⟨_, rfl, n, rfl, by omega, by omega, fun D1 nD1 => ?_⟩
    refine lc_itY walk_range (fun i H' => Same H H' ∧ ∃ rs : List Addr, H' D1 = some (.lst (rs.map V.ref)) ∧ rs.length = i ∧ rs.Nodup ∧ D1 ∉ rs ∧ (∀ r ∈ rs, H r = none) ∧ ∀ r ∈ rs, ∃ acc, H' r = some (.lst acc) ∧ acc.length = n ∧ ∀ j, j < n → acc[j]? = some (.ref t0))
      ⟨same_new nD1, [], upd_same, rfl, List.nodup_nil, by simp, by simp, by simp⟩ (fun _ _ _ _ => trivial) (fun i x H1 H2 hi h hy => ?_) (fun H1 h => ?_)
    · obtain ⟨rfl, rfl⟩ := yrange0 hy
      obtain ⟨sm, rs, h1, h2, h3, h4, h5, h6⟩ := h
      refine ⟨rfl, ?_⟩
      refine ⟨_, rfl, n, rfl, by omega, by omega, fun D2 nD2 => ?_⟩
      refine lc_all walk_range (l := []) (R := fun _ v (_ : Unit) => v = .ref t0) (fun _ _ _ _ _ h => h) (fun _ => ()) nD2 Live.nil (by show n ≤ sizeLine; exact Nat.le_of_lt (small1000 hn)) (fun _ _ => trivial)
        (fun j y H3 H4 Put hj sm3 lv3 hy3 hput => ?_) (fun H3 sm3 hM => ?_)
      · obtain ⟨rfl, rfl⟩ := yrange0 hy3
        exact ⟨rfl, hput _ _ (Same.refl _) rfl⟩
      · obtain ⟨_, acc, ha, hp⟩ := hM
        have hl := hp.length
        rw [List.length_map, List.length_range] at hl
        have hl : acc.length = n := hl
        have hD12 : D1 ≠ D2 := fun e => by rw [e, nD2] at h1; cases h1
        have hi' : i < n := hi
        refine ⟨_, sm3 _ _ h1, by rw [List.length_map]; exact small1000 (by omega), same_write (sm.trans sm3) nD1, rs ++ [D2], ?_, by simp [h2], ?_, ?_, ?_, ?_⟩
        · rw [upd_same, List.map_append]
          rfl
        · refine List.nodup_append.mpr ⟨h3, by simp, fun a ha' b hb e => ?_⟩
          have eb : b = D2 := by simpa using hb
          obtain ⟨acc', h7, _⟩ := h6 a ha'
          rw [e, eb, nD2] at h7
          cases h7
        · intro z
          rcases List.mem_append.mp z with z | z
          · exact h4 z
          · exact hD12 (by simpa using z)
        · intro r hr
          rcases List.mem_append.mp hr with z | z
          · exact h5 r z
          · have e : r = D2 := by simpa using z
            rw [e]
            exact sm.free nD2
        · intro r hr
          rcases List.mem_append.mp hr with z | z
          · obtain ⟨acc', h7, h8, h9⟩ := h6 r z
            have nr : r ≠ D1 := fun e => h4 (e ▸ z)
            exact ⟨acc', by rw [upd_ne nr]; exact sm3 _ _ h7, h8, h9⟩
          · have e : r = D2 := by simpa using z
            subst e
            refine ⟨acc, by rw [upd_ne (Ne.symm hD12)]; exact ha, hl, fun j hj => ?_⟩
            obtain ⟨y, e1, e2⟩ := paired_get' hp (i := j) (x := acc[j]'(by omega)) (List.getElem?_eq_getElem (by omega))
            rw [List.getElem?_eq_getElem (by omega), show acc[j]'(by omega) = .ref t0 from e2]
    · obtain ⟨sm, rs, h1, h2, h3, h4, h5, h6⟩ := h
      have F0 : FoundAt K l H1 D1 n rs Dn (sumC (cuts.take 0)) := by
        refine ⟨h1, h2, h3, h4, fun i r hr => ?_⟩
        obtain ⟨acc, h7, h8, h9⟩ := h6 r (List.mem_of_getElem? hr)
        refine ⟨acc, h7, h8, fun j hj => ⟨_, h9 j hj, t0, rfl, ?_⟩⟩
        show SqT K _ t0 [.int (fr (sumC [] i j) Dn).1, .int (fr (sumC [] i j) Dn).2]
        rw [show sumC [] i j = 0 from rfl, fr_zero hD]
        exact hN _
      clear h1 h2 h3 h4 h6
      -- the cuts
      refine ⟨_, rfl, b, rfl, ⟨_, up_seq sm hz⟩, ?_⟩
      have ezl : zs.length = cuts.length := by
        have := hpz.length
        unfold frC at this
        rw [List.length_map] at this
        exact this
      have bnd : ∀ (k : Nat) (c : List Nat × Int), cuts[k]? = some c → ∀ i j, Sm 1000 (sumC (cuts.take k) i j) ∧ Sm 1000 (sumC (cuts.take k) i j + partC c i j) := fun k c hk i j => by
        have hw' : ∀ c ∈ cuts.take k, 0 ≤ c.2 := fun c hc => hw c (List.mem_of_mem_take hc)
        have hw2 : ∀ c ∈ cuts.take (k + 1), 0 ≤ c.2 := fun c hc => hw c (List.mem_of_mem_take hc)
        have e1 := sum_le hw' i j
        have e2 := tot_take hw k
        have e3 := sum_le hw2 i j
        have e4 := tot_take hw (k + 1)
        rw [sumC_take hk] at e3
        have e5 : (totC cuts).natAbs < 2 ^ 1000 := htot
        constructor
        · show _ < 2 ^ 1000
          omega
        · show _ < 2 ^ 1000
          omega
      refine for_list (K := K) (a := b) (xs := zs) (fun k σ H' => ∃ y2 y3 y5 y6, σ = [some (.int (n : Int)), some (.ref b), y2, y3, some (.ref D1), y5, y6] ∧ Same H H' ∧ FoundAt K l H' D1 n rs Dn (sumC (cuts.take k)))
        ⟨none, none, none, none, rfl, sm, F0⟩ (fun k σ H' _ ⟨_, _, _, _, _, sm', _⟩ => up_seq sm' hz) (fun k x σ H2 hk h => ?_) (fun σ H2 h => ?_)
      · obtain ⟨y2, y3, y5, y6, rfl, sm2, F2⟩ := h
        obtain ⟨⟨c1, c2⟩, hck, t, x0, y0, rfl, ht, hcut, hwt⟩ := paired_get' hpz hk
        unfold frC at hck
        rw [List.getElem?_map] at hck
        obtain ⟨c, hcc, ec⟩ : ∃ c, cuts[k]? = some c ∧ (c.1, fr c.2 Dn) = (c1, c2) := by
          cases e : cuts[k]? with
          | none => rw [e] at hck; cases hck
          | some c => rw [e] at hck; exact ⟨c, rfl, Option.some.inj hck⟩
        cases ec
        obtain ⟨cb, rfl, hcb⟩ := ls_nat hcut
        have hcw : 0 ≤ c.2 := hw c (List.mem_of_getElem? hcc)
        have hct := tot_mem hw c (List.mem_of_getElem? hcc)
        refine ⟨t, _, rfl, Same.tup sm2 (Same.tup hid_sub ht), rfl, _, _, rfl, _, [], rfl, rfl, ?_⟩
        refine ⟨_, rfl, n, rfl, by omega, by omega, ?_⟩
        refine for_range (n := n) (fun i σ H' => ∃ y2 y3, σ = [some (.int (n : Int)), some (.ref b), y2, y3, some (.ref D1), some (.ref cb), some y0] ∧ Same H H' ∧ FoundAt K l H' D1 n rs Dn (midC (sumC (cuts.take k)) c i 0))
          ⟨y2, y3, rfl, sm2, F2.congr fun i j _ _ => by unfold midC; rw [if_neg (by omega)]; omega⟩ (fun i σ H3 hi h => ?_) (fun σ H3 h => ?_)
        · obtain ⟨y2, y3, rfl, sm3, F3⟩ := h
          rw [Int.zero_add]
          refine ⟨_, rfl, n, rfl, by omega, by omega, ?_⟩
          refine for_range (n := n) (fun j σ H' => ∃ y3, σ = [some (.int (n : Int)), some (.ref b), some (.int (i : Int)), y3, some (.ref D1), some (.ref cb), some y0] ∧ Same H H' ∧ FoundAt K l H' D1 n rs Dn (midC (sumC (cuts.take k)) c i j))
            ⟨y3, rfl, sm3, F3⟩ (fun j σ H4 hj h => ?_) (fun σ H4 h => ?_)
          · obtain ⟨y3, rfl, sm4, F4⟩ := h
            rw [Int.zero_add]
            refine ⟨_, rfl, _, rfl, cb, _, rfl, .inl (up_seq sm4 hcb), rfl, flat_nat c.1, _, rfl, _, rfl, cb, _, rfl, .inl (up_seq sm4 hcb), rfl, flat_nat c.1, rfl, _, rfl, ?_⟩
            show if (!decide (V.bl (inV (.int (i : Int)) (natsV c.1)) = V.bl (inV (.int (j : Int)) (natsV c.1)))) = true then _ else _
            rw [inV_nat, inV_nat]
            by_cases hp : decide (i ∈ c.1) = decide (j ∈ c.1)
            · rw [hp, decide_eq_true rfl]
              refine iteF ⟨_, rfl, sm4, F4.congr fun x y _ _ => ?_⟩
              unfold midC
              by_cases hxy : x = i ∧ y = j
              · obtain ⟨rfl, rfl⟩ := hxy
                rw [if_neg (by omega), if_pos (by omega)]
                unfold partC
                rw [if_pos hp]
              · by_cases hb : x < i ∨ (x = i ∧ y < j)
                · rw [if_pos hb, if_pos (by omega)]
                · rw [if_neg hb, if_neg (by omega)]
            · rw [decide_eq_false (fun e => hp (V.bl.inj e))]
              refine iteT ?_
              obtain ⟨f1, f2, f3, f4, f5⟩ := id F4
              have hri : rs[i]? = some (rs[i]'(by omega)) := List.getElem?_eq_getElem (by omega)
              obtain ⟨acc, f6, f7, f8⟩ := f5 i _ hri
              obtain ⟨v1, f9, f10⟩ := f8 j hj
              have hri' : (rs.map V.ref)[i]? = some (.ref (rs[i]'(by omega))) := by rw [List.getElem?_map, hri]; rfl
              have hm : midC (sumC (cuts.take k)) c i j i j = sumC (cuts.take k) i j := by unfold midC; rw [if_neg (by omega)]; omega
              have hpc : partC c i j = c.2 := by unfold partC; rw [if_neg hp]
              have hb := bnd k c hcc i j
              rw [hm] at f10
              have e5 : (totC cuts).natAbs < 2 ^ 1000 := htot
              have hc2 : Sm 1000 c.2 := by show c.2.natAbs < 2 ^ 1000; omega
              refine ⟨_, rfl, _, rfl, D1, _, i, _, rfl, rfl, .of f1, atI_nat hri', _, rfl, _, acc, j, v1, rfl, rfl, .of f6, atI_nat f9, ?_⟩
              refine ⟨_, rfl, l, v1, y0, _, _, rfl, lv.same sm4, f10, mono_frK K _ _ _ _ (hid_mono sm4) hwt, frS_of hD (sm_up (by decide) hb.1) (sm_up (by decide) hDs), frS_of hD (sm_up (by decide) hc2) (sm_up (by decide) hDs), fun v2 H5 sm5 hv2 => ?_⟩
              rw [plusF_fr hD] at hv2
              refine ⟨_, rfl, _, rfl, D1, _, i, _, rfl, rfl, .of (sm5 _ _ f1), atI_nat hri', _, rfl, _, acc, j, j, rfl, rfl, sm5 _ _ f6, ?_, ?_⟩
              · unfold ixN
                rw [if_pos (by omega), if_pos (by omega)]
                rfl
              · have hmem : rs[i]'(by omega) ∈ rs := List.getElem_mem _
                refine ⟨_, rfl, same_write (sm4.trans sm5) (h5 _ hmem), ((F4.same sm5).put hri (sm5 _ _ f6) hj hv2).congr fun x y _ _ => ?_⟩
                by_cases hxy : x = i ∧ y = j
                · obtain ⟨rfl, rfl⟩ := hxy
                  rw [if_pos ⟨rfl, rfl⟩]
                  unfold midC
                  rw [if_pos (by omega), hpc]
                · rw [if_neg hxy]
                  unfold midC
                  by_cases hb : x < i ∨ (x = i ∧ y < j)
                  · rw [if_pos hb, if_pos (by omega)]
                  · rw [if_neg hb, if_neg (by omega)]
          · obtain ⟨y3, rfl, sm4, F4⟩ := h
            refine ⟨_, _, rfl, sm4, F4.congr fun x y hx hy => ?_⟩
            unfold midC
            by_cases hb : x < i ∨ (x = i ∧ y < n)
            · rw [if_pos hb, if_pos (by omega)]
            · rw [if_neg hb, if_neg (by omega)]
        · obtain ⟨y2, y3, rfl, sm3, F3⟩ := h
          refine ⟨_, _, _, _, rfl, sm3, F3.congr fun x y hx hy => ?_⟩
          rw [sumC_take hcc]
          unfold midC
          rw [if_pos (by omega)]
      · obtain ⟨y2, y3, y5, y6, rfl, sm2, F2⟩ := h
        rw [ezl, List.take_length] at F2
        exact ⟨_, rfl, q _ _ sm2 (F2.tab lv nD1 h5)⟩
end
end K57
end

section
set_option Elab.async false
set_option linter.all false
set_option maxRecDepth 100000
set_option maxHeartbeats 4000000
set_option exponentiation.threshold 10000
namespace K57
open PySem PySem.Spec PyProof.Rows L2
/-! ### hung_together -/
def thereL (m o : Nat) : List Nat := (List.range m).filter fun x => !decide (x = o)
/-- the rows of two tables hung together -/
def rowsH (n : Nat) (D : Int) (A B : Mx) (p o : Nat) (th : List Nat) : List (List (Int × Int)) :=
  ((List.range n).map fun i => ((List.range n).map fun j => fr (A i j) D) ++ th.map fun k => fr (A i p + B k o) D) ++
  th.map fun k => ((List.range n).map fun i => fr (A i p + B k o) D) ++ th.map fun q => fr (B k q) D
section
variable {P : Program} {w : World} {K : PySem.W.Frag} {mg : Str → Option Value} {base : Heap} {ad : Nat → Addr} {fd : Nat → FuncData}
theorem grid_tr {α : Type} {R : Rl α} {H : Hp} {v : V} {n : Nat} {f : Nat → Nat → α} (h : LsV K (LsV K R) H v (matG n f)) : ∃ A xs, v = .ref A ∧ H A = some (.lst xs) ∧ xs.length = n ∧ ∀ i, i < n → ∃ ra ys, xs[i]? = some (.ref ra) ∧ H ra = some (.lst ys) ∧ Paired (R H) ys ((List.range n).map fun j => f i j) := by
  obtain ⟨A, xs, h1, h2, h3⟩ := h
  have hl := h3.length
  unfold matG at hl
  rw [List.length_map, List.length_range] at hl
  refine ⟨A, xs, h1, h2, hl, fun i hi => ?_⟩
  obtain ⟨x, h4, ra, ys, h5, h6, h7⟩ := paired_get h3 (i := i) (a := (List.range n).map fun j => f i j) (by
    unfold matG
    rw [List.getElem?_map, List.getElem?_range hi]
    rfl)
  exact ⟨ra, ys, by rw [h4, h5], h6, h7⟩
theorem rdTh {α : Type} {R : Rl α} {l : List Addr} {σ : L2.St} {H : Hp} {Q : VK} {A : Addr} {n : Nat} {f : Nat → Nat → α} {i0 ia ib i j : Nat} (hG : GridAt K R (hid l H) A n f) (h0 : σ[i0]? = some (some (.ref A))) (hi : σ[ia]? = some (some (.int (i : Int)))) (hj : σ[ib]? = some (some (.int (j : Int))))
    (li : i < n) (lj : j < n) (q : ∀ v, R (hid l H) v (f i j) → Q v H) : tOp (rIxL K) (tOp (rIxL K) (tVar i0) (tVar ia)) (tVar ib) σ H Q := by
  obtain ⟨xs, h1, _, h2⟩ := hG
  obtain ⟨ra, ys, h3, h4, _, h5⟩ := h2 i li
  obtain ⟨v, h6, h7⟩ := h5 j lj
  exact ⟨_, h0, _, hi, A, xs, i, .ref ra, rfl, rfl, hid_sub.seq h1, atI_nat h3, _, hj, ra, ys, j, v, rfl, rfl, hid_sub.seq h4, atI_nat h6, q v h7⟩
theorem paired_map_take {α : Type} {F : V → α → Prop} {xs : List V} {f : Nat → α} {n i : Nat} (h : Paired F xs ((List.range n).map f)) (hi : i < n) : ∃ v, xs[i]? = some v ∧ F v (f i) :=
  paired_get h (i := i) (a := f i) (by rw [List.getElem?_map, List.getElem?_range hi] <;> rfl)
def spHung (K : PySem.W.Frag) : Sp := fun vs H Q _ => ∃ (l : List Addr) (u v : V) (n m p o : Nat) (D : Int) (A B : Mx), vs = [u, .int (p : Int), v, .int (o : Int)] ∧ Live l H ∧ TabV K (hid l H) u (tabF n D A) ∧ TabV K (hid l H) v (tabF m D B) ∧
  TabS n D A ∧ TabS m D B ∧ p < n ∧ o < m ∧ n ≤ 400 ∧ m ≤ 400 ∧ ∀ r H', Same H H' → TabV K (hid l H') r (rowsH n D A B p o (thereL m o)) → Q r H'
abbrev N15 : List Str := ["table", "point", "other", "other_point", "place", "there", "found", "row", "ahead", "behind"]
theorem sc15 : FnScope N15 ["table", "point", "other", "other_point"] (defScope (top 15)) := ⟨rfl, rfl, rfl, by decide +kernel, rfl, by decide +kernel, by decide +kernel⟩
theorem fm_there (m o : Nat) : fm (fun i => if i = o then none else some i) m = thereL m o := by
  unfold fm thereL
  rw [← List.filterMap_eq_filter]
  refine congrArg (fun f => List.filterMap f (List.range m)) (funext fun i => ?_)
  by_cases hm : i = o <;> simp [hm, Option.guard]
theorem map_getD {α : Type} (l : List Nat) (f : Nat → α) : (List.range l.length).map (fun k => f (l.getD k 0)) = l.map f := by
  refine List.ext_getElem? fun k => ?_
  rw [List.getElem?_map, List.getElem?_map]
  by_cases h : k < l.length
  · rw [List.getElem?_range h, List.getElem?_eq_getElem h]
    simp [List.getD_eq_getElem?_getD, List.getElem?_eq_getElem h]
  · rw [List.getElem?_eq_none (by rw [List.length_range]; omega), List.getElem?_eq_none (by omega)]
    rfl
theorem ok15 (T : Txt K mg ad fd) : FnOk P w K mg base CX0 4 (ad 15) (fd 15) ["table", "point", "other", "other_point"] (spHung K) := by
  have G8 : FnOk P w K mg base CX0 3 (ad 8) (fd 8) ["q", "r"] (spBin K plusF) := ok8 T
  refine T.d15.F.ok sc15 (fun vs H Q E h => ?_) (fun cdv A outer s H vs Q E hr h => ?_)
  · obtain ⟨l, u, v, n, m, p, o, D, A, B, rfl, _⟩ := h
    rfl
  · obtain ⟨l, u, v, n, m, p, o, Dn, M, B, rfl, lv, ht, ht', hs, hs', hp, ho, hn, hm, q⟩ := h
    obtain ⟨a, xs, rfl, hxs, hxl, hrow⟩ := grid_tr ht
    obtain ⟨b, rfl, hG'⟩ := grid_at ht'
    obtain ⟨ys, hys, hyl, _⟩ := id hG'
    generalize eth : thereL m o = th at q
    have thm : ∀ k ∈ th, k < m := fun k hk => by
      rw [← eth] at hk
      exact List.mem_range.mp (List.mem_filter.mp hk).1
    have thl : th.length ≤ m := by
      rw [← eth]
      exact Nat.le_trans (List.length_filter_le ..) (by rw [List.length_range]; exact Nat.le_refl _)
    have big : (900 : Nat) < sizeLine := by decide
    refine ⟨_, pss_cons (ps_if (PW.pt (pw_or (pt_not (pt_chain op_le op_lt pe_int (pv 1) (pe_callB (lenK K) (by rfl) T.len PySem.boot_len (pa_cons (pv 0) pa_nil)))) (pw_or1 (pt_not (pt_chain op_le op_lt pe_int (pv 3) (pe_callB (lenK K) (by rfl) T.len PySem.boot_len (pa_cons (pv 2) pa_nil))))))) (pss_one ps_never) pss_nil)
      (pss_cons (ps_setLc (i := 5) (own := [("place", 4)]) (g := gName 4) (by rfl) sc15.nd rfl rfl (sw_true rfl rfl rfl (by decide +kernel)) (pi_range1 rfl T.range (pa_cons (pe_callB (lenK K) (by rfl) T.len PySem.boot_len (pa_cons (pv 2) pa_nil)) pa_nil)) (blkOk_by (own := [("place", 4)]) (N := N15) (sc := defScope (top 15)) (by decide +kernel))
          (fun _ _ _ _ _ => pg_name (i := 4) sc15.nd rfl (Or.inl rfl)) (fun _ _ _ _ _ => pts_one (pt_cmpR op_ne (pv 4) (pv 3) (nomark _))) (fun _ _ _ _ _ => pv 4))
      (pss_cons (ps_set (i := 6) sc15.nd rfl (.inl rfl) (pe_lst pa_nil))
      (pss_cons (ps_for PassesOwn.never rfl (pi_list (pv 0)) (pg_name (i := 7) sc15.nd rfl (Or.inr rfl))
        (pss_one (ps_expr (pe_bm PySem.F.plainAttrs_list PySem.F.slot_list_append PySem.F.type_list_append mt_append (pv 6) (pa_cons (pe_op op_cat (pv 7)
          (pe_lc (own := [("place", 4)]) (g := gName 4) (by rfl) sc15.nd (lstK K (pv 5)) (blkOk_by (own := [("place", 4)]) (N := N15) (sc := defScope (top 15)) (by decide +kernel))
            (fun _ _ _ _ _ => pg_name (i := 4) sc15.nd rfl (Or.inl rfl)) (fun _ _ _ _ _ => pts_nil)
            (fun _ _ _ _ _ => pe_call G8 hr (by rfl) T.d8.g T.d8.F.kp T.d8.b .nil pass0 (pa_cons (pe_ix (ixlK K) (pv 7) (pv 1) (fun _ _ => rfl)) (pa_cons (pe_ix (ixlK K) (pe_ix (ixlK K) (pv 2) (pv 4) (fun _ _ => rfl)) (pv 3) (fun _ _ => rfl)) pa_nil))))) pa_nil)))))
      (pss_cons (ps_for PassesOwn.never rfl (pi_list (pv 5)) (pg_name (i := 4) sc15.nd rfl (Or.inr rfl))
        (pss_cons (ps_setLc (i := 8) (own := [("row", 7)]) (g := gName 7) (by rfl) sc15.nd rfl rfl (sw_true rfl rfl rfl (by decide +kernel)) (lstK K (pv 0)) (blkOk_by (own := [("row", 7)]) (N := N15) (sc := defScope (top 15)) (by decide +kernel))
            (fun _ _ _ _ _ => pg_name (i := 7) sc15.nd rfl (Or.inl rfl)) (fun _ _ _ _ _ => pts_nil)
            (fun _ _ _ _ _ => pe_call G8 hr (by rfl) T.d8.g T.d8.F.kp T.d8.b .nil pass0 (pa_cons (pe_ix (ixlK K) (pv 7) (pv 1) (fun _ _ => rfl)) (pa_cons (pe_ix (ixlK K) (pe_ix (ixlK K) (pv 2) (pv 4) (fun _ _ => rfl)) (pv 3) (fun _ _ => rfl)) pa_nil))))
        (pss_one (ps_expr (pe_bm PySem.F.plainAttrs_list PySem.F.slot_list_append PySem.F.type_list_append mt_append (pv 6) (pa_cons (pe_op op_cat (pv 8)
          (pe_lc (own := [("behind", 9)]) (g := gName 9) (by rfl) sc15.nd (lstK K (pv 5)) (blkOk_by (own := [("behind", 9)]) (N := N15) (sc := defScope (top 15)) (by decide +kernel))
            (fun _ _ _ _ _ => pg_name (i := 9) sc15.nd rfl (Or.inl rfl)) (fun _ _ _ _ _ => pts_nil)
            (fun _ _ _ _ _ => pe_ix (ixlK K) (pe_ix (ixlK K) (pv 2) (pv 4) (fun _ _ => rfl)) (pv 9) (fun _ _ => rfl)))) pa_nil))))))
      (pss_one (ps_ret (pv 6))))))), ?_⟩
    -- the points are there
    refine ⟨_, rfl, 0, _, rfl, rfl, _, rfl, ?_⟩
    rw [show decide ((0 : Int) ≤ (p : Int)) = true from decide_eq_true (by omega)]
    refine iteT ⟨_, rfl, a, xs, rfl, .inl (.of (hid_sub _ _ hxs)), _, _, rfl, rfl, _, rfl, ?_⟩
    rw [show decide (((p : Nat) : Int) < ((xs.length : Nat) : Int)) = true from decide_eq_true (by omega)]
    refine iteF ?_
    refine ⟨_, rfl, 0, _, rfl, rfl, _, rfl, ?_⟩
    rw [show decide ((0 : Int) ≤ (o : Int)) = true from decide_eq_true (by omega)]
    refine iteT ⟨_, rfl, b, ys, rfl, .inl (up_seq (Same.refl _) hys), _, _, rfl, rfl, _, rfl, ?_⟩
    rw [show decide (((o : Nat) : Int) < ((ys.length : Nat) : Int)) = true from decide_eq_true (by omega)]
    refine iteF ?_
    -- there
    refine ⟨_, rfl, b, ys, rfl, .inl (up_seq (Same.refl _) hys), m, by rw [hyl], by omega, by omega, fun D1 nD1 => ?_⟩
    refine lc_gen walk_range (l := l) mono_nat (fun i => if i = o then none else some i) nD1 lv (by show m ≤ sizeLine; omega) (fun _ _ => trivial) (fun i x H2 H3 Put Skip hi sm2 hacc hy hput hskip => ?_) (fun H2 sm2 hM => ?_)
    · obtain ⟨rfl, rfl⟩ := yrange0 hy
      refine ⟨rfl, _, rfl, _, rfl, rfl, _, rfl, ?_⟩
      by_cases hio : i = o
      · rw [show decide (V.int (i : Int) = V.int (o : Int)) = true from decide_eq_true (by rw [hio])]
        exact iteF (hskip _ (Same.refl _) (if_pos hio))
      · rw [show decide (V.int (i : Int) = V.int (o : Int)) = false from decide_eq_false fun z => hio (by have := V.int.inj z; omega)]
        exact iteT ⟨_, rfl, hput _ _ i (Same.refl _) (if_neg hio) rfl⟩
    have e2 : ((m : Int)).toNat = m := rfl
    rw [e2, fm_there, eth] at hM
    obtain ⟨nD1l, accT, hT, hpT⟩ := hM
    have eT : accT = natsV th := paired_nat hpT
    subst eT
    clear hpT
    refine ⟨Nat.zero_le _, fun F nF => ?_⟩
    have sF : Same H (upd H2 F (.lst [])) := sm2.trans (same_new nF)
    have nFH : H F = none := sm2.free nF
    have nFD : D1 ≠ F := fun e => by rw [e, nF] at hT; cases hT
    -- the first rows
    refine ⟨_, rfl, a, rfl, ⟨_, .of (sF _ _ (hid_sub _ _ hxs))⟩, ?_⟩
    refine for_list (K := K) (a := a) (xs := xs) (fun i σ H' => ∃ y4 y7, σ = [some (.ref a), some (.int (p : Int)), some (.ref b), some (.int (o : Int)), y4, some (.ref D1), some (.ref F), y7, none, none] ∧ Same H H' ∧ H' D1 = some (.lst (natsV th)) ∧
        ∃ acc, H' F = some (.lst acc) ∧ Paired (LsV K (FrV K) (hid (F :: l) H')) acc ((List.range i).map fun i => ((List.range n).map fun j => fr (M i j) Dn) ++ th.map fun k => fr (M i p + B k o) Dn))
      ⟨none, none, rfl, sF, by rw [upd_ne nFD]; exact hT, [], upd_same, .nil⟩ (fun i σ H' _ ⟨_, _, _, sm, _⟩ => .of (sm _ _ (hid_sub _ _ hxs))) (fun i x σ H3 hi h => ?_) (fun σ H3 h => ?_)
    · obtain ⟨y4, y7, rfl, sm3, hT3, acc, hacc, hpa⟩ := h
      have hin : i < n := by rw [← hxl]; exact (List.getElem?_eq_some_iff.mp hi).1
      obtain ⟨ra, us, r1, r2, r3⟩ := hrow i hin
      cases hi.symm.trans r1
      have lv3 : Live (F :: l) H3 := (lv.same sm3).cons hacc
      refine ⟨_, rfl, .inl ⟨rfl, _, .of hacc⟩, _, rfl, _, rfl, D1, rfl, ⟨_, .of hT3⟩, fun D2 nD2 => ?_⟩
      refine lc_all (walk_list (xs := natsV th)) (l := F :: l) (mono_frK K) (fun k => fr (M i p + B (th.getD k 0) o) Dn) nD2 lv3 (by rw [List.length_map]; omega) (fun H4 sm4 => .of (sm4 _ _ hT3)) (fun k x H4 H5 Put hk sm4 lv4 hy hput => ?_) (fun H4 sm4 hM4 => ?_)
      · obtain ⟨rfl, hx⟩ := hy
        rw [List.length_map] at hk
        obtain rfl := nats_at hk hx
        have hkm := thm _ (getD_mem hk)
        obtain ⟨v1, p1, p2⟩ := paired_map_take r3 hp
        have s4 := sm3.trans sm4
        have sh : Same (hid l H) (hid (D2 :: F :: l) H5) := hid_push2 s4 nFH (sm3.free nD2)
        refine ⟨rfl, _, rfl, _, rfl, ra, us, p, v1, rfl, rfl, .of (s4 _ _ (hid_sub _ _ r2)), atI_nat p1, ?_⟩
        refine rdTh (l := D2 :: F :: l) (i := th.getD k 0) (j := o) (hG'.same mono_fr sh) rfl rfl rfl hkm ho fun v2 hv2 => ?_
        refine ⟨D2 :: F :: l, v1, v2, _, _, rfl, lv4, mono_frK K _ _ _ _ sh p2, hv2, hs.frS hin hp, hs'.frS hkm ho, fun r H6 sm6 hr6 => ?_⟩
        rw [plusF_fr hs.pos] at hr6
        exact hput _ _ sm6 hr6
      · obtain ⟨nD2l, acc2, h2, hp2⟩ := hM4
        have s4 := sm3.trans sm4
        have hl2 := hp2.length
        have hl3 := r3.length
        rw [List.length_map, List.length_range, List.length_map] at hl2
        rw [List.length_map, List.length_range] at hl3
        refine ⟨ra, D2, us, acc2, rfl, rfl, s4 _ _ (hid_sub _ _ r2), h2, by omega, fun p1 np1 => ?_⟩
        have s5 : Same H4 (upd H4 p1 (.lst (us ++ acc2))) := same_new np1
        have hF4 : H4 F = some (.lst acc) := sm4 _ _ hacc
        have hlen := hpa.length
        rw [List.length_map, List.length_range] at hlen
        have hF5 : upd H4 p1 (.lst (us ++ acc2)) F = some (.lst acc) := s5 _ _ hF4
        have nF1 : p1 ≠ F := fun e => by rw [e, hF4] at np1; cases np1
        refine ⟨F, acc, _, rfl, rfl, hF5, by omega, ?_⟩
        refine ⟨_, _, rfl, same_write (s4.trans s5) nFH, by rw [upd_ne nFD]; exact s5 _ _ (sm4 _ _ hT3), acc ++ [.ref p1], upd_same, ?_⟩
        rw [hid_write List.mem_cons_self, List.range_succ, List.map_append]
        refine paired_append (hpa.mono fun x y z => mono_rowK K _ _ _ _ (hid_mono (sm4.trans s5)) z) (.cons ⟨p1, us ++ acc2, rfl, ?_, ?_⟩ .nil)
        · rw [hid_out (fun z => ?_), upd_same]
          rcases List.mem_cons.mp z with z | z
          · exact nF1 z
          · exact lv.out ((s4.free np1)) z
        · refine paired_append (r3.mono fun x y z => mono_frK K _ _ _ _ (hid_push (s4.trans s5) nFH) z) ?_
          have e := hp2.mono fun x y z => mono_frK K _ _ _ _ (Same.trans hid_tail (hid_mono s5)) z
          rw [List.length_map, map_getD th fun k => fr (M i p + B k o) Dn] at e
          exact e
    -- the other rows
    · obtain ⟨y4, y7, rfl, sm3, hT3, acc, hacc, hpa⟩ := h
      rw [hxl] at hpa
      refine ⟨_, rfl, D1, rfl, ⟨_, .of hT3⟩, ?_⟩
      refine for_list (K := K) (a := D1) (xs := natsV th) (fun k σ H' => ∃ y4 y8, σ = [some (.ref a), some (.int (p : Int)), some (.ref b), some (.int (o : Int)), y4, some (.ref D1), some (.ref F), y7, y8, none] ∧ Same H H' ∧ H' D1 = some (.lst (natsV th)) ∧
          ∃ acc, H' F = some (.lst acc) ∧ Paired (LsV K (FrV K) (hid (F :: l) H')) acc (((List.range n).map fun i => ((List.range n).map fun j => fr (M i j) Dn) ++ th.map fun k => fr (M i p + B k o) Dn) ++
            (th.take k).map fun k => ((List.range n).map fun i => fr (M i p + B k o) Dn) ++ th.map fun q => fr (B k q) Dn))
        ⟨y4, none, rfl, sm3, hT3, acc, hacc, by rw [List.take_zero, List.map_nil, List.append_nil]; exact hpa⟩ (fun i σ H' _ ⟨_, _, _, _, hT', _⟩ => .of hT') (fun k x σ H4 hk h => ?_) (fun σ H4 h => ?_)
      · obtain ⟨y4, y8, rfl, sm4, hT4, acc, hacc, hpa⟩ := h
        have hkl : k < th.length := by
          have := (List.getElem?_eq_some_iff.mp hk).1
          rw [List.length_map] at this
          exact this
        obtain rfl := nats_at hkl hk
        have hkm := thm _ (getD_mem hkl)
        have lv4 : Live (F :: l) H4 := (lv.same sm4).cons hacc
        refine ⟨_, rfl, a, rfl, ⟨_, .of (sm4 _ _ (hid_sub _ _ hxs))⟩, fun D2 nD2 => ?_⟩
        refine lc_all (walk_list (xs := xs)) (l := F :: l) (mono_frK K) (fun i => fr (M i p + B (th.getD k 0) o) Dn) nD2 lv4 (by omega) (fun H5 sm5 => .of (sm5 _ _ (sm4 _ _ (hid_sub _ _ hxs)))) (fun i x H5 H6 Put hi sm5 lv5 hy hput => ?_) (fun H5 sm5 hM5 => ?_)
        · obtain ⟨rfl, hx⟩ := hy
          rw [hxl] at hi
          obtain ⟨ra, us, r1, r2, r3⟩ := hrow i hi
          cases hx.symm.trans r1
          obtain ⟨v1, p1, p2⟩ := paired_map_take r3 hp
          have s5 := sm4.trans sm5
          have sh : Same (hid l H) (hid (D2 :: F :: l) H6) := hid_push2 s5 nFH (sm4.free nD2)
          refine ⟨rfl, _, rfl, _, rfl, ra, us, p, v1, rfl, rfl, .of (s5 _ _ (hid_sub _ _ r2)), atI_nat p1, ?_⟩
          refine rdTh (l := D2 :: F :: l) (i := th.getD k 0) (j := o) (hG'.same mono_fr sh) rfl rfl rfl hkm ho fun v2 hv2 => ?_
          refine ⟨D2 :: F :: l, v1, v2, _, _, rfl, lv5, mono_frK K _ _ _ _ sh p2, hv2, hs.frS hi hp, hs'.frS hkm ho, fun r H6 sm6 hr6 => ?_⟩
          rw [plusF_fr hs.pos] at hr6
          exact hput _ _ sm6 hr6
        · obtain ⟨nD2l, acc2, h2, hp2⟩ := hM5
          have s5 := sm4.trans sm5
          have hF5 : H5 F = some (.lst acc) := sm5 _ _ hacc
          have hT5 := sm5 _ _ hT4
          have lv5 : Live (F :: l) H5 := lv4.same sm5
          refine ⟨_, rfl, .inl ⟨rfl, _, .of hF5⟩, _, rfl, _, rfl, D1, rfl, ⟨_, .of hT5⟩, fun D3 nD3 => ?_⟩
          refine lc_all (walk_list (xs := natsV th)) (l := F :: l) (mono_frK K) (fun q => fr (B (th.getD k 0) (th.getD q 0)) Dn) nD3 lv5 (by rw [List.length_map]; omega) (fun H6 sm6 => .of (sm6 _ _ hT5)) (fun j x H6 H7 Put hj sm6 lv6 hy hput => ?_) (fun H6 sm6 hM6 => ?_)
          · obtain ⟨rfl, hx⟩ := hy
            rw [List.length_map] at hj
            obtain rfl := nats_at hj hx
            have hjm := thm _ (getD_mem hj)
            have s6 := s5.trans sm6
            have sh : Same (hid l H) (hid (D3 :: F :: l) H7) := hid_push2 s6 nFH (s5.free nD3)
            refine ⟨rfl, ?_⟩
            exact rdTh (l := D3 :: F :: l) (i := th.getD k 0) (j := th.getD j 0) (hG'.same mono_fr sh) rfl rfl rfl hkm hjm fun v2 hv2 => hput _ _ (Same.refl _) hv2
          · obtain ⟨nD3l, acc3, h3, hp3⟩ := hM6
            have s6 := s5.trans sm6
            have hl2 := hp2.length
            have hl3 := hp3.length
            rw [List.length_map, List.length_range, hxl] at hl2
            rw [List.length_map, List.length_range, List.length_map] at hl3
            refine ⟨D2, D3, acc2, acc3, rfl, rfl, sm6 _ _ h2, h3, by omega, fun p1 np1 => ?_⟩
            have s7 : Same H6 (upd H6 p1 (.lst (acc2 ++ acc3))) := same_new np1
            have hF6 : H6 F = some (.lst acc) := sm6 _ _ hF5
            have hlen := hpa.length
            rw [List.length_append, List.length_map, List.length_range, List.length_map, List.length_take] at hlen
            have hF7 : upd H6 p1 (.lst (acc2 ++ acc3)) F = some (.lst acc) := s7 _ _ hF6
            have nF1 : p1 ≠ F := fun e => by rw [e, hF6] at np1; cases np1
            refine ⟨F, acc, _, rfl, rfl, hF7, by omega, ?_⟩
            refine ⟨_, _, rfl, same_write (s6.trans s7) nFH, by rw [upd_ne nFD]; exact s7 _ _ (sm6 _ _ hT5), acc ++ [.ref p1], upd_same, ?_⟩
            rw [hid_write List.mem_cons_self, List.take_add_one, List.getElem?_eq_getElem hkl, List.map_append, ← List.append_assoc]
            refine paired_append (hpa.mono fun x y z => mono_rowK K _ _ _ _ (hid_mono (sm5.trans (sm6.trans s7))) z) (.cons ⟨p1, acc2 ++ acc3, rfl, ?_, ?_⟩ .nil)
            · rw [hid_out (fun z => ?_), upd_same]
              rcases List.mem_cons.mp z with z | z
              · exact nF1 z
              · exact lv.out ((s6.free np1)) z
            · have ek : th[k] = th.getD k 0 := by
                rw [List.getD_eq_getElem?_getD, List.getElem?_eq_getElem hkl]
                rfl
              rw [ek]
              refine paired_append ?_ ?_
              · have e := hp2.mono fun x y z => mono_frK K _ _ _ _ (Same.trans hid_tail (hid_mono (sm6.trans s7))) z
                rw [hxl] at e
                exact e
              · have e := hp3.mono fun x y z => mono_frK K _ _ _ _ (Same.trans hid_tail (hid_mono s7)) z
                rw [List.length_map, map_getD th fun q => fr (B (th.getD k 0) q) Dn] at e
                exact e
      · obtain ⟨y4, y8, rfl, sm4, hT4, acc, hacc, hpa⟩ := h
        rw [List.length_map, List.take_length] at hpa
        refine ⟨_, rfl, q _ _ sm4 ⟨F, acc, rfl, ?_, hpa.mono fun x y z => mono_rowK K _ _ _ _ hid_tail z⟩⟩
        rw [hid_out (lv.out nFH)]
        exact hacc
end
end K57
end

section
set_option Elab.async false
set_option linter.all false
set_option maxRecDepth 100000
set_option maxHeartbeats 4000000
set_option exponentiation.threshold 10000
namespace K57
open PySem PySem.Spec PyProof.Rows L2
section
variable {P : Program} {w : World} {K : PySem.W.Frag} {mg : Str → Option Value} {base : Heap} {ad : Nat → Addr} {fd : Nat → FuncData}
/-! ### in_wholes -/
/-- a whole number for each place of the table: so many times as told -/
def whR (D : Int) (A : Mx) (b : Int) : Mx := fun i j => (fr (A i j) D).1 * (b / (fr (A i j) D).2)
def spWholes (K : PySem.W.Frag) : Sp := fun vs H Q _ => ∃ (l : List Addr) (v : V) (n : Nat) (D : Int) (A : Mx), vs = [v] ∧ Live l H ∧ TabV K (hid l H) v (tabF n D A) ∧ TabS n D A ∧ n ≤ 1000 ∧
  ∀ r H' b, Same H H' → 0 < b → b ∣ D → (∀ i j, i < n → j < n → (fr (A i j) D).2 ∣ b) → PrV K (RowsV K) IntV (hid l H') r (matL n (whR D A b), b) → Q r H'
abbrev N21 : List Str := ["table", "by", "row", "top", "bottom"]
abbrev bk21 : Scope := { kind := .function, names := [(".0", .local), ("row", .local), ("by", .free)], isGenerator := false, isCoroutine := false }
theorem sc21 : FnScope N21 ["table"] (defScope (top 21)) := ⟨rfl, rfl, rfl, by decide +kernel, rfl, by decide +kernel, by decide +kernel⟩
theorem sm_dvd {b D : Int} {k : Nat} (hD : 0 < D) (hb : 0 < b) (h : b ∣ D) (hs : Sm k D) : Sm k b := by
  have := Int.le_of_dvd hD h
  show b.natAbs < 2 ^ k
  have hs : D.natAbs < 2 ^ k := hs
  omega
theorem sm_ediv {a b : Int} {k : Nat} (ha : Sm k a) : Sm k (a / b) := Nat.lt_of_le_of_lt (Int.natAbs_ediv_le_natAbs _ _) ha
theorem ok21 (T : Txt K mg ad fd) : FnOk P w K mg base CX0 2 (ad 21) (fd 21) ["table"] (spWholes K) := by
  have G6 : FnOk P w K mg base CX0 1 (ad 6) (fd 6) ["one", "other"] spCommon := ok6 T
  refine T.d21.F.ok sc21 (fun vs H Q E h => ?_) (fun cdv A outer s H vs Q E hr h => ?_)
  · obtain ⟨l, v, n, D, A, rfl, _⟩ := h
    rfl
  · obtain ⟨l, v, n, D, M, rfl, lv, ht, hs, hn, q⟩ := h
    obtain ⟨a, xs, rfl, hxs, hxl, hrow⟩ := grid_tr ht
    refine ⟨_, pss_cons (ps_set (i := 1) sc21.nd rfl (.inr rfl) pe_int)
      (pss_cons (ps_for PassesOwn.never rfl (pi_list (pv 0)) (pg_name (i := 2) sc21.nd rfl (Or.inl rfl))
        (pss_one (ps_for PassesOwn.never rfl (pi_list (pv 2)) (tgK K rfl (pgs_cons (pg_name (i := 3) sc21.nd rfl (.inl rfl)) (pgs_cons (pg_name (i := 4) sc21.nd rfl (.inl rfl)) pgs_nil)))
          (pss_one (ps_set (i := 1) sc21.nd rfl (.inr rfl) (pe_op op_mulW (pe_op op_fdivW (pv 1) (pe_call G6 hr (by rfl) T.d6.g T.d6.F.kp T.d6.b .nil pass0 (pa_cons (pv 1) (pa_cons (pv 4) pa_nil)))) (pv 4)))))))
      (pss_one (ps_ret (pe_tup (pa_cons
        (pe_lc (own := [("row", 2)]) (g := gName 2) (by rfl) sc21.nd (pi_list (pv 0)) (blkOk_by (own := [("row", 2)]) (N := N21) (sc := defScope (top 21)) (by decide +kernel))
          (fun _ _ _ _ _ => pg_name (i := 2) sc21.nd rfl (Or.inl rfl)) (fun _ _ _ _ _ => pts_nil) (fun _ _ _ _ _ =>
            pe_lc (own := [("top", 3), ("bottom", 4)]) (g := gTup K 2 _) (by rfl) sc21.nd (lstK K (pv 2)) (blkOk_by (own := [("top", 3), ("bottom", 4)]) (N := N21) (sc := relS bk21 (defScope (top 21))) (by decide +kernel))
              (fun _ _ _ _ _ => tgK K (by rfl) (pgs_cons (pg_name (i := 3) sc21.nd rfl (.inl rfl)) (pgs_cons (pg_name (i := 4) sc21.nd rfl (.inl rfl)) pgs_nil))) (fun _ _ _ _ _ => pts_nil)
              (fun _ _ _ _ _ => pe_op op_mulW (pv 3) (pe_op op_fdivW (pv 1) (pv 4)))))
        (pa_cons (pv 1) pa_nil)))))), ?_⟩
    have hfb : ∀ i j, 0 < (fr (M i j) D).2 ∧ (fr (M i j) D).2 ∣ D ∧ Sm 1000 (fr (M i j) D).2 := fun i j => ⟨fr_pos hs.pos, fr_dvd, sm_dvd hs.pos (fr_pos hs.pos) fr_dvd hs.d⟩
    have d1 : (1 : Int) ∣ D := Int.one_dvd D
    refine ⟨_, rfl, a, rfl, ⟨_, .of (hid_sub _ _ hxs)⟩, ?_⟩
    refine for_list (K := K) (a := a) (xs := xs) (fun i σ H' => ∃ b y2 y3 y4, σ = [some (.ref a), some (.int b), y2, y3, y4] ∧ Same H H' ∧ 0 < b ∧ b ∣ D ∧ ∀ x j, x < i → j < n → (fr (M x j) D).2 ∣ b)
      ⟨1, none, none, none, rfl, Same.refl _, by omega, d1, fun x j hx => by omega⟩ (fun i σ H' _ ⟨_, _, _, _, _, sm, _⟩ => .of (sm _ _ (hid_sub _ _ hxs))) (fun i x σ H1 hi h => ?_) (fun σ H1 h => ?_)
    · obtain ⟨b, y2, y3, y4, rfl, sm, hb, hbD, hbb⟩ := h
      have hin : i < n := by rw [← hxl]; exact (List.getElem?_eq_some_iff.mp hi).1
      obtain ⟨ra, us, r1, r2, r3⟩ := hrow i hin
      cases hi.symm.trans r1
      have hul : us.length = n := by
        have := r3.length
        rw [List.length_map, List.length_range] at this
        exact this
      refine ⟨_, rfl, ra, rfl, ⟨_, .of (sm _ _ (hid_sub _ _ r2))⟩, ?_⟩
      refine for_list (K := K) (a := ra) (xs := us) (fun j σ H' => ∃ b y3 y4, σ = [some (.ref a), some (.int b), some (.ref ra), y3, y4] ∧ Same H H' ∧ 0 < b ∧ b ∣ D ∧ (∀ x y, x < i → y < n → (fr (M x y) D).2 ∣ b) ∧ ∀ y, y < j → (fr (M i y) D).2 ∣ b)
        ⟨b, y3, y4, rfl, sm, hb, hbD, hbb, fun y hy => by omega⟩ (fun i σ H' _ ⟨_, _, _, _, sm, _⟩ => .of (sm _ _ (hid_sub _ _ r2))) (fun j x σ H2 hj h => ?_) (fun σ H2 h => ?_)
      · obtain ⟨b, y3, y4, rfl, sm2, hb, hbD, hbb, hbj⟩ := h
        have hjn : j < n := by rw [← hul]; exact (List.getElem?_eq_some_iff.mp hj).1
        obtain ⟨v, p1, t, p2, p3⟩ := paired_map_take r3 hjn
        cases hj.symm.trans p1
        subst p2
        obtain ⟨f1, f2, f3⟩ := hfb i j
        generalize efr : fr (M i j) D = q' at p3 f1 f2 f3
        obtain ⟨tp, bt⟩ := q'
        have step := lcm_step hs.pos hb f1 hbD f2
        have hbs : Sm 1000 b := sm_dvd hs.pos hb hbD hs.d
        refine ⟨t, _, rfl, Same.tup sm2 (Same.tup hid_sub p3), rfl, _, _, rfl, _, [], rfl, rfl, ?_⟩
        refine ⟨_, rfl, _, rfl, _, rfl, b, bt, rfl, fun H3 sm3 => ?_⟩
        refine ⟨b, _, rfl, rfl, wide_div (gcd_pos f1) (Nat.lt_of_le_of_lt (gcd_le f1) f3) (by decide) (by decide), _, rfl, _, bt, rfl, rfl, wide_mul (sm_ediv hbs) f3 (by decide) (by decide) (by decide), ?_⟩
        refine ⟨_, _, _, rfl, sm2.trans sm3, step.1, step.2.1, fun x y hx hy => Int.dvd_trans (hbb x y hx hy) step.2.2.1, fun y hy => ?_⟩
        by_cases hyj : y < j
        · exact Int.dvd_trans (hbj y hyj) step.2.2.1
        · have e : y = j := by omega
          subst e
          rw [efr]
          exact step.2.2.2
      · obtain ⟨b, y3, y4, rfl, sm2, hb, hbD, hbb, hbj⟩ := h
        refine ⟨b, _, _, _, rfl, sm2, hb, hbD, fun x y hx hy => ?_⟩
        by_cases hxi : x < i
        · exact hbb x y hxi hy
        · have e : x = i := by omega
          subst e
          exact hbj y (by omega)
    · obtain ⟨b, y2, y3, y4, rfl, sm, hb, hbD, hbb⟩ := h
      rw [hxl] at hbb
      have hbs : Sm 1000 b := sm_dvd hs.pos hb hbD hs.d
      refine ⟨_, rfl, a, rfl, ⟨_, .of (sm _ _ (hid_sub _ _ hxs))⟩, fun D1 nD1 => ?_⟩
      refine lc_all (walk_list (xs := xs)) (l := l) (mono_ls (K := K) mono_int) (fun i => (List.range n).map fun j => whR D M b i j) nD1 (lv.same sm) (by rw [hxl]; exact Nat.le_of_lt (small1000 hn)) (fun H2 sm2 => .of (sm2 _ _ (sm _ _ (hid_sub _ _ hxs))))
        (fun i x H2 H3 Put hi sm2 lv2 hy hput => ?_) (fun H2 sm2 hM => ?_)
      · obtain ⟨rfl, hx⟩ := hy
        rw [hxl] at hi
        obtain ⟨ra, us, r1, r2, r3⟩ := hrow i hi
        cases hx.symm.trans r1
        have hul : us.length = n := by
          have := r3.length
          rw [List.length_map, List.length_range] at this
          exact this
        have s2 := sm.trans sm2
        refine ⟨rfl, _, rfl, ra, rfl, ⟨_, .of (s2 _ _ (hid_sub _ _ r2))⟩, fun D2 nD2 => ?_⟩
        refine lc_all (walk_list (xs := us)) (l := D1 :: l) mono_int (fun j => whR D M b i j) nD2 lv2 (by rw [hul]; exact Nat.le_of_lt (small1000 hn)) (fun H4 sm4 => .of (sm4 _ _ (s2 _ _ (hid_sub _ _ r2))))
          (fun j y H4 H5 Put5 hj sm4 lv4 hy5 hput5 => ?_) (fun H4 sm4 hM4 => hput _ _ sm4 (by have e := hM4.ls (K := K) mono_int; rw [hul] at e; exact e))
        obtain ⟨rfl, hx5⟩ := hy5
        rw [hul] at hj
        obtain ⟨v, p1, t, p2, p3⟩ := paired_map_take r3 hj
        cases hx5.symm.trans p1
        subst p2
        obtain ⟨f1, f2, f3⟩ := hfb i j
        have s4 := s2.trans sm4
        have hts : Sm 1000 (fr (M i j) D).1 := Nat.lt_of_le_of_lt fr_le.1 (hs.a i j hi hj)
        refine ⟨t, _, rfl, Same.tup s4 (Same.tup hid_sub p3), rfl, _, _, rfl, _, [], rfl, rfl, rfl, ?_⟩
        refine ⟨_, rfl, _, rfl, _, rfl, b, _, rfl, rfl, wide_div f1 f3 (by decide) (by decide), _, _, rfl, rfl, wide_mul hts (sm_ediv hbs) (by decide) (by decide) (by decide), ?_⟩
        exact hput5 _ _ (Same.refl _) rfl
      · refine ⟨_, rfl, by show 2 ≤ sizeLine; decide, fun p hp => ?_⟩
        have s3 : Same H2 (upd H2 p (.tup [.ref D1, .int b])) := same_new hp
        have s4 := sm.trans sm2
        have e := hM.ls (K := K) (mono_ls mono_int)
        rw [hxl] at e
        refine q _ _ b (s4.trans s3) hb hbD hbb ⟨p, _, _, rfl, .of ?_, mono_ls (mono_ls mono_int) _ _ _ _ (hid_mono s3) e, rfl⟩
        rw [hid_out (lv.out (s4.free hp)), upd_same]
end
end K57
end

section
set_option Elab.async false
set_option linter.all false
set_option maxRecDepth 100000
set_option maxHeartbeats 4000000
set_option exponentiation.threshold 10000
namespace K57
open PySem PySem.Spec PyProof.Rows L2
/-! ### sorted of a list of things -/
section
variable {X : Cx} {K : PySem.W.Frag} {α : Type} [DecidableEq α]
def rSortE (K : PySem.W.Frag) (R : Rl α) (e : α → PyData) : List V → Hp → VK → Prop := fun vs H Q => ∃ (a : Addr) (l : List α), vs = [V.ref a] ∧ LsV K R H (.ref a) l ∧
  ∀ p acc, H p = none → Paired (R H) acc (l.mergeSort (PySem.W.dataLe false e)) → Q (.ref p) (upd H p (.lst acc))
theorem vals_each {R : V → α → Prop} : ∀ {xs : List V} {us : List Value} {l : List α}, Vals xs us → Paired R xs l → PySem.W.EachIs (fun u a => ∃ x, RelV x u ∧ R x a) us l
  | _, _, _, .nil, .nil => .nil
  | _, _, _, .cons r t, .cons q p => .cons ⟨_, r, q⟩ (vals_each t p)
theorem each_vals {R : V → α → Prop} : ∀ {us : List Value} {l : List α}, PySem.W.EachIs (fun u a => ∃ x, RelV x u ∧ R x a) us l → ∃ xs, Vals xs us ∧ Paired R xs l
  | _, _, .nil => ⟨[], .nil, .nil⟩
  | _, _, .cons ⟨x, r, q⟩ t => by
    obtain ⟨xs, h1, h2⟩ := each_vals t
    exact ⟨x :: xs, .cons r h1, .cons q h2⟩
theorem each_of2 {S T : Value → α → Prop} : ∀ {us : List Value} {l : List α}, PySem.W.EachIs S us l → (∀ u a, S u a → T u a) → PySem.W.EachIs T us l
  | _, _, .nil, _ => .nil
  | _, _, .cons h t, f => .cons (f _ _ h) (each_of2 t f)
theorem cr_sortE {R : Rl α} {e : α → PyData} {d : Nat} (E : Enc K R e d) (hd : d ≤ 60) (hs : ∀ l : List α, PySem.W.Sortable (l.map e)) (hu : X.A.units + 64 < cLine) (hK : X.K = K := by rfl) : CallR X (.builtin "sorted") (rSortE K R e) := by
  subst hK
  intro pins s σ H vs us Q I r h
  obtain ⟨a, l, rfl, ⟨a', xs, ea, ha, hp⟩, q⟩ := h
  cases ea
  obtain ⟨its, rv, hl, hz⟩ := I.list (.of ha)
  rw [Vals.ref1 r]
  have e1 := vals_each rv hp
  have hlen : l.length ≤ sizeLine := by rw [← hp.length]; exact hz
  refine PySem.W.sorted_data (enc := e) hl.isList e1 (each_of2 e1 fun u b ⟨x, r, q⟩ => Dp.reads I (e b) x u (E.dp _ _ _ q) r) (PySem.W.AllAlike.of fun b b' => E.alk b b') (hs l) hlen (fun b hb => ?_) fun out ho eo => ?_
  · have := E.dep b
    omega
  · obtain ⟨acc, h1, h2⟩ := each_vals eo
    obtain ⟨c, hc⟩ := PyProof.Rows.sortedAll_at s.heap its out.toArray
    have hl2 : acc.length ≤ sizeLine := by
      rw [h2.length, List.length_mergeSort]
      exact hlen
    have hn : H (s.heap.objs.size + 1) = none := I.hok.fresh (Nat.le_succ _)
    exact ⟨.ref _, upd H (s.heap.objs.size + 1) (.lst acc), I.laid (t' := s.toks) (fun _ _ => PyProof.Rows.sortedAll_old) (Nat.le_succ _) ⟨hl2, out, c, h1, hc⟩, rfl, q _ _ hn h2⟩
end
theorem sortable_cut {K : PySem.W.Frag} (l : List (List Nat)) : PySem.W.Sortable (l.map fun s => PyData.list (s.map fun n : Nat => PyData.int (n : Int))) :=
  PySem.W.Sortable.others fun b => ⟨(by intro h; cases h), fun xs h => nomatch h⟩
theorem sortable_due (l : List (List Nat × (Int × Int))) : PySem.W.Sortable (l.map fun p => PyData.tuple [PyData.list (p.1.map fun n : Nat => PyData.int (n : Int)), frD p.2]) :=
  PySem.W.Sortable.tuples fun b => ⟨_, _, rfl⟩
end K57
end

section
set_option Elab.async false
set_option linter.all false
set_option maxRecDepth 100000
set_option maxHeartbeats 4000000
set_option exponentiation.threshold 10000
namespace K57
open PySem PySem.Spec PyProof.Rows L2
section
variable {P : Program} {w : World} {K : PySem.W.Frag} {mg : Str → Option Value} {base : Heap} {ad : Nat → Addr} {fd : Nat → FuncData}
/-! ### splits_of -/
theorem Enc.hid {α : Type} [DecidableEq α] {R : Rl α} {e : α → PyData} {d : Nat} (E : Enc K R e d) (m : Mono R) (l : List Addr) : Enc K (fun H => R (K57.hid l H)) e d :=
  ⟨fun H v a h => E.dp H v a (m _ _ _ _ hid_sub h), E.lay, E.dep, E.eqv, E.alk⟩
abbrev CutV (K : PySem.W.Frag) : Rl (List Nat) := LsV K NatV
theorem mono_cutK (K : PySem.W.Frag) : Mono (CutV K) := mono_ls mono_nat
abbrev eCut (s : List Nat) : PyData := PyData.list (s.map fun n : Nat => PyData.int (n : Int))
abbrev leC : List Nat → List Nat → Bool := PySem.W.dataLe false eCut
/-- the splits of the table of A / D, as told -/
def splitsT (n : Nat) (A : Mx) : List (List Nat × Int) := ((cutsUp A (n - 1)).mergeSort leC).map fun s => (s, least A s (beside s n))
def spSplits (K : PySem.W.Frag) : Sp := fun vs H Q _ => ∃ (l : List Addr) (v : V) (n : Nat) (D : Int) (A : Mx), vs = [v] ∧ Live l H ∧ TabV K (hid l H) v (tabF n D A) ∧ TabS n D A ∧ 1 ≤ n ∧ n ≤ 12 ∧ Long n A ∧
  ∀ r H', Same H H' → CutsV K (hid l H') r (frC (2 * D) (splitsT n A)) → Q r H'
abbrev N25 : List Str := ["table", "rows", "by", "found", "point", "some", "n", "side"]
theorem sc25 : FnScope N25 ["table"] (defScope (top 25)) := ⟨rfl, rfl, rfl, by decide +kernel, rfl, by decide +kernel, by decide +kernel⟩
theorem fm_list {α : Type} (l : List α) (d : α) (f : α → Bool) : fm (fun i => if f (l.getD i d) = true then some (l.getD i d) else none) l.length = l.filter f := by
  unfold fm
  rw [← List.filterMap_eq_filter]
  have e : (List.range l.length).filterMap (fun i => if f (l.getD i d) = true then some (l.getD i d) else none) = ((List.range l.length).map fun i => l.getD i d).filterMap (fun x => if f x = true then some x else none) := by
    rw [List.filterMap_map]
    rfl
  rw [e]
  have e2 : (List.range l.length).map (fun i => l.getD i d) = l := by
    refine List.ext_getElem? fun k => ?_
    rw [List.getElem?_map]
    by_cases h : k < l.length
    · rw [List.getElem?_range h, List.getElem?_eq_getElem h]
      simp [List.getD_eq_getElem?_getD, List.getElem?_eq_getElem h]
    · rw [List.getElem?_eq_none (by rw [List.length_range]; omega), List.getElem?_eq_none (by omega)]
      rfl
  rw [e2]
  refine congrArg (fun g => List.filterMap g l) (funext fun x => ?_)
  by_cases h : f x = true <;> simp [h, Option.guard]
theorem mem_getD {α : Type} {l : List α} {d : α} {i : Nat} (h : i < l.length) : l.getD i d ∈ l := by
  rw [List.getD_eq_getElem?_getD, List.getElem?_eq_getElem h]
  exact List.getElem_mem h
theorem get_getD {α : Type} {l : List α} {d : α} {i : Nat} (h : i < l.length) : l[i]? = some (l.getD i d) := by
  rw [List.getD_eq_getElem?_getD, List.getElem?_eq_getElem h]
  rfl
theorem ok25 (T : Txt K mg ad fd) : FnOk P w K mg base CX0 6 (ad 25) (fd 25) ["table"] (spSplits K) := by
  have G20 : FnOk P w K mg base CX0 5 (ad 20) (fd 20) ["table"] (spNeed K) := ok20 T
  have G21 : FnOk P w K mg base CX0 2 (ad 21) (fd 21) ["table"] (spWholes K) := ok21 T
  have G23 : FnOk P w K mg base CX0 2 (ad 23) (fd 23) ["rows", "side", "others"] (spLeast K) := ok23 T
  have G24 : FnOk P w K mg base CX0 1 (ad 24) (fd 24) ["side", "n"] (spBeside K) := ok24 T
  have G7 : FnOk P w K mg base CX0 2 (ad 7) (fd 7) ["top", "bottom"] (spFraction K) := ok7 T
  refine T.d25.F.ok sc25 (fun vs H Q E h => ?_) (fun cdv A outer s H vs Q E hr h => ?_)
  · obtain ⟨l, v, n, D, A, rfl, _⟩ := h
    rfl
  · obtain ⟨l, v, n, D, M, rfl, lv, ht, hs, h1n, hn, hlong, q⟩ := h
    have hr2 : Room 2 _ := hr.mono (by decide)
    have hr1 : Room 1 _ := hr.mono (by decide)
    have big : (9000 : Nat) < sizeLine := by decide
    refine ⟨_, pss_cons (ps_expr (pe_call G20 hr (by rfl) T.d20.g T.d20.F.kp T.d20.b .nil pass0 (pa_cons (pv 0) pa_nil)))
      (pss_cons (ps_asg (pe_call G21 hr2 (by rfl) T.d21.g T.d21.F.kp T.d21.b .nil pass0 (pa_cons (pv 0) pa_nil)) (tgK K rfl (pgs_cons (pg_name (i := 1) sc25.nd rfl (.inr rfl)) (pgs_cons (pg_name (i := 2) sc25.nd rfl (.inr rfl)) pgs_nil))))
      (pss_cons (ps_set (i := 3) sc25.nd rfl (.inl rfl) (pe_lst pa_nil))
      (pss_cons (ps_for PassesOwn.never rfl (pi_range2 rfl T.range (pa_cons pe_int (pa_cons (pe_callB call_len_seq (by rfl) T.len PySem.boot_len (pa_cons (pv 0) pa_nil)) pa_nil))) (pg_name (i := 4) sc25.nd rfl (Or.inr rfl))
        (pss_cons (ps_set (i := 5) sc25.nd rfl (.inl rfl) (pe_op op_cat (pe_op op_cat (pe_lst (pa_cons (pe_lst (pa_cons (pv 4) pa_nil)) pa_nil)) (pv 3))
            (pe_lc (own := [("side", 7)]) (g := gName 7) (by rfl) sc25.nd (lstK K (pv 3)) (blkOk_by (own := [("side", 7)]) (N := N25) (sc := defScope (top 25)) (by decide +kernel))
              (fun _ _ _ _ _ => pg_name (i := 7) sc25.nd rfl (Or.inl rfl)) (fun _ _ _ _ _ => pts_nil) (fun _ _ _ _ _ => pe_op op_cat (pv 7) (pe_lst (pa_cons (pv 4) pa_nil))))))
        (pss_one (ps_setLc (i := 3) (own := [("side", 7)]) (g := gName 7) (by rfl) sc25.nd rfl rfl (sw_true rfl rfl rfl (by decide +kernel)) (lstK K (pv 5)) (blkOk_by (own := [("side", 7)]) (N := N25) (sc := defScope (top 25)) (by decide +kernel))
              (fun _ _ _ _ _ => pg_name (i := 7) sc25.nd rfl (Or.inl rfl))
              (fun _ _ _ _ _ => pts_one (pt_cmpR op_gt (pe_call G23 hr2 (by rfl) T.d23.g T.d23.F.kp T.d23.b .nil pass0 (pa_cons (pv 1) (pa_cons (pv 7) (pa_cons (pe_call G24 hr1 (by rfl) T.d24.g T.d24.F.kp T.d24.b .nil pass0 (pa_cons (pv 7) (pa_cons (pe_op op_add (pv 4) pe_int) pa_nil))) pa_nil)))) pe_int (nomark _)))
              (fun _ _ _ _ _ => pv 7)))))
      (pss_cons (ps_set (i := 6) sc25.nd rfl (.inr rfl) (pe_callB call_len_seq (by rfl) T.len PySem.boot_len (pa_cons (pv 0) pa_nil)))
      (pss_one (ps_ret (pe_lc (own := [("side", 7)]) (g := gName 7) (by rfl) sc25.nd
            (lstK K (pe_callB (cr_sortE ((enc_ls (enc_nat (K := K))).hid (mono_cutK K) l) (by decide) (fun l => sortable_cut (K := K) l) hr.units) (by rfl) T.sorted PyProof.Rows.boot_sorted (pa_cons (pv 3) pa_nil)))
            (blkOk_by (own := [("side", 7)]) (N := N25) (sc := defScope (top 25)) (by decide +kernel))
            (fun _ _ _ _ _ => pg_name (i := 7) sc25.nd rfl (Or.inl rfl)) (fun _ _ _ _ _ => pts_nil)
            (fun _ _ _ _ _ => pe_tup (pa_cons (pv 7) (pa_cons (pe_call G7 hr2 (by rfl) T.d7.g T.d7.F.kp T.d7.b .nil pass0 (pa_cons
              (pe_call G23 hr2 (by rfl) T.d23.g T.d23.F.kp T.d23.b .nil pass0 (pa_cons (pv 1) (pa_cons (pv 7) (pa_cons (pe_call G24 hr1 (by rfl) T.d24.g T.d24.F.kp T.d24.b .nil pass0 (pa_cons (pv 7) (pa_cons (pv 6) pa_nil))) pa_nil))))
              (pa_cons (pe_op op_mulW pe_int (pv 2)) pa_nil))) pa_nil)))))))))), ?_⟩
    obtain ⟨a, xs, rfl, hxs, hxl, hrow⟩ := grid_tr ht
    -- need_long, in_wholes
    refine ⟨_, rfl, _, n, D, M, rfl, mono_tabK K _ _ _ _ hid_sub ht, hs, by omega, hlong, fun H1 sm1 => ?_⟩
    refine ⟨_, rfl, l, _, n, D, M, rfl, lv.same sm1, mono_tabK K _ _ _ _ (hid_mono sm1) ht, hs, by omega, fun r H2 b sm2 hb hbD hbb hR => ?_⟩
    obtain ⟨t, rv, y, rfl, htt, hRows, hy⟩ := hR
    cases (show y = V.int b from hy)
    refine ⟨t, _, rfl, Same.tup hid_sub htt, rfl, _, _, rfl, _, [], rfl, rfl, ?_⟩
    have sH2 := sm1.trans sm2
    have hrD : ∀ i j, i < n → j < n → whR D M b i j * D = M i j * b := fun i j hi hj => whole_mul hs.pos (hbb i j hi hj)
    have hbs : Sm 1000 b := sm_dvd hs.pos hb hbD hs.d
    generalize whR D M b = R at hRows hrD
    refine ⟨Nat.zero_le _, fun f0 nf0 => ?_⟩
    have sf0 : Same H2 (upd H2 f0 (.lst [])) := same_new nf0
    have sf := sH2.trans sf0
    have en : ((n : Int) - 1).toNat = n - 1 := by omega
    have rowsUp : ∀ {H'}, Same H2 H' → RowsV K H' rv (matL n R) := fun e => mono_ls (mono_ls mono_int) _ _ _ _ (Same.trans (hid_mono e) hid_sub) hRows
    -- the loop
    refine ⟨_, rfl, a, xs, rfl, .inl (.of (sf _ _ (hid_sub _ _ hxs))), 1, n, by rw [hxl], ⟨by omega, by omega, by omega, by omega⟩, ?_⟩
    refine for_range (lo := 1) (n := ((n : Int) - 1).toNat) (fun i σ H' => ∃ f y4 y5, σ = [some (.ref a), some rv, some (.int b), some (.ref f), y4, y5, none, none] ∧ Same (upd H2 f0 (.lst [])) H' ∧ LsV K (CutV K) (hid l H') (.ref f) (cutsUp R i))
      ⟨f0, none, none, rfl, Same.refl _, f0, [], rfl, by rw [hid_out ((lv.same sH2).out nf0), upd_same], .nil⟩ (fun i σ H3 hi h => ?_) (fun σ H3 h => ?_)
    · obtain ⟨f, y4, y5, rfl, sm3, hf⟩ := h
      rw [en] at hi
      rw [show (1 : Int) + (i : Int) = ((i + 1 : Nat) : Int) by omega]
      obtain ⟨f', accf, ef, hfa, hfp⟩ := hf
      cases ef
      have s3 := sf.trans sm3
      have s23 := sf0.trans sm3
      have clen : (cutsUp R i).length + 1 ≤ 2048 := Nat.le_trans (cuts_len R i) (Nat.le_trans (Nat.pow_le_pow_right (by decide) (show i ≤ 11 by omega)) (by decide))
      have lenf := hfp.length
      -- some
      refine ⟨_, rfl, by show 1 ≤ sizeLine; decide, fun p1 np1 => ⟨by show 1 ≤ sizeLine; decide, fun p2 np2 => ?_⟩⟩
      have t1 : Same H3 (upd H3 p1 (.lst [.int ((i + 1 : Nat) : Int)])) := same_new np1
      have t2 : Same (upd H3 p1 (.lst [.int ((i + 1 : Nat) : Int)])) (upd (upd H3 p1 (.lst [.int ((i + 1 : Nat) : Int)])) p2 (.lst [.ref p1])) := same_new np2
      have np21 : p1 ≠ p2 := fun e => by rw [← e, upd_same] at np2; cases np2
      have hp1 : (upd (upd H3 p1 (.lst [.int ((i + 1 : Nat) : Int)])) p2 (.lst [.ref p1])) p1 = some (.lst [.int ((i + 1 : Nat) : Int)]) := t2 _ _ upd_same
      have hp2 : (upd (upd H3 p1 (.lst [.int ((i + 1 : Nat) : Int)])) p2 (.lst [.ref p1])) p2 = some (.lst [.ref p1]) := upd_same
      have t12 := t1.trans t2
      have np1l : p1 ∉ l := (lv.same s3).out np1
      generalize upd (upd H3 p1 (.lst [.int ((i + 1 : Nat) : Int)])) p2 (.lst [.ref p1]) = H4 at hp1 hp2 t12
      refine ⟨_, rfl, p2, f, [.ref p1], accf, rfl, rfl, hp2, t12 _ _ (hid_sub _ _ hfa), by simp only [List.length_singleton]; omega, fun p3 np3 => ?_⟩
      have t3 : Same H4 (upd H4 p3 (.lst ([.ref p1] ++ accf))) := same_new np3
      have hp3 : (upd H4 p3 (.lst ([.ref p1] ++ accf))) p3 = some (.lst ([.ref p1] ++ accf)) := upd_same
      generalize upd H4 p3 (.lst ([.ref p1] ++ accf)) = H5 at t3 hp3
      have t5 := t12.trans t3
      refine ⟨_, rfl, f, rfl, ⟨_, .of (t5 _ _ (hid_sub _ _ hfa))⟩, fun D1 nD1 => ?_⟩
      refine lc_all (walk_list (xs := accf)) (l := l) (mono_cutK K) (fun k => (cutsUp R i).getD k [] ++ [i + 1]) nD1 ((lv.same s3).same t5) (by omega) (fun H6 sm6 => .of (sm6 _ _ (t5 _ _ (hid_sub _ _ hfa)))) (fun k x H6 H7 Put hk sm6 lv6 hy hput => ?_) (fun H6 sm6 hM => ?_)
      · obtain ⟨rfl, hx⟩ := hy
        obtain ⟨side, hside, c, cs, rfl, hc1, hc2⟩ := paired_get' hfp hx
        have es : (cutsUp R i).getD k [] = side := by
          rw [List.getD_eq_getElem?_getD, hside]
          rfl
        have ec : cs = natsV side := paired_nat hc2
        subst ec
        have hsl : side.length ≤ 1000 := by
          have ok := cuts_ok R i side (List.mem_of_getElem? hside)
          have := nodup_len (i + 1) ok.nd fun x hx => by have := ok.hi x hx; omega
          omega
        have t6 := t5.trans sm6
        refine ⟨rfl, _, rfl, _, rfl, by show 1 ≤ sizeLine; decide, fun p4 np4 => ?_⟩
        have t7 : Same H7 (upd H7 p4 (.lst [.int ((i + 1 : Nat) : Int)])) := same_new np4
        refine ⟨c, p4, natsV side, _, rfl, rfl, t7 _ _ (t6 _ _ (hid_sub _ _ hc1)), upd_same, by rw [List.length_map]; simp only [List.length_singleton]; omega, fun p5 np5 => ?_⟩
        have t8 : Same (upd H7 p4 (.lst [.int ((i + 1 : Nat) : Int)])) (upd (upd H7 p4 (.lst [.int ((i + 1 : Nat) : Int)])) p5 (.lst (natsV side ++ [.int ((i + 1 : Nat) : Int)]))) := same_new np5
        refine hput _ _ (t7.trans t8) ?_
        rw [es]
        refine ⟨p5, natsV side ++ [.int ((i + 1 : Nat) : Int)], rfl, ?_, paired_append hc2 (.cons (show NatV _ (V.int ((i + 1 : Nat) : Int)) (i + 1) from rfl) .nil)⟩
        rw [hid_out ((lv6.same t7).out np5), upd_same]
      · obtain ⟨nD1l, accD, hD, hpD⟩ := hM
        have lenD := hpD.length
        rw [List.length_map, List.length_range, lenf] at lenD
        have t6 := t5.trans sm6
        refine ⟨p3, D1, _, accD, rfl, rfl, sm6 _ _ hp3, hD, by rw [List.length_append]; simp only [List.length_singleton]; omega, fun p6 np6 => ?_⟩
        have t7 : Same H6 (upd H6 p6 (.lst ([.ref p1] ++ accf ++ accD))) := same_new np6
        have hp6 : (upd H6 p6 (.lst ([.ref p1] ++ accf ++ accD))) p6 = some (.lst ([.ref p1] ++ accf ++ accD)) := upd_same
        generalize upd H6 p6 (.lst ([.ref p1] ++ accf ++ accD)) = H7 at t7 hp6
        have t8 := t6.trans t7
        have s8 := s3.trans t8
        have hsome : Paired (CutV K (hid l H7)) ([.ref p1] ++ accf ++ accD) (someC (cutsUp R i) (i + 1)) := by
          unfold someC
          refine paired_append (paired_append (.cons ⟨p1, _, rfl, ?_, .cons rfl .nil⟩ .nil) (hfp.mono fun x y z => mono_cutK K _ _ _ _ (hid_mono t8) z)) ?_
          · rw [hid_out np1l]
            exact t7 _ _ (sm6 _ _ (t3 _ _ hp1))
          · have e := hpD.mono fun x y z => mono_cutK K _ _ _ _ (Same.trans hid_tail (hid_mono t7)) z
            rw [lenf] at e
            have e2 : (List.range (cutsUp R i).length).map (fun k => (cutsUp R i).getD k [] ++ [i + 1]) = (cutsUp R i).map fun s => s ++ [i + 1] := by
              refine List.ext_getElem? fun k => ?_
              rw [List.getElem?_map, List.getElem?_map]
              by_cases h : k < (cutsUp R i).length
              · rw [List.getElem?_range h, List.getElem?_eq_getElem h]
                simp [List.getD_eq_getElem?_getD, List.getElem?_eq_getElem h]
              · rw [List.getElem?_eq_none (by rw [List.length_range]; omega), List.getElem?_eq_none (by omega)]
                rfl
            rw [e2] at e
            exact e
        have lenS := hsome.length
        -- found
        refine ⟨_, rfl, p6, rfl, ⟨_, .of hp6⟩, fun D2 nD2 => ?_⟩
        refine lc_gen (walk_list (xs := [.ref p1] ++ accf ++ accD)) (l := l) (mono_cutK K) (fun k => if okC R ((someC (cutsUp R i) (i + 1)).getD k []) (i + 2) = true then some ((someC (cutsUp R i) (i + 1)).getD k []) else none) nD2 ((lv.same s8)) (by rw [List.length_append, List.length_append]; simp only [List.length_singleton]; omega) (fun H8 sm8 => .of (sm8 _ _ hp6))
          (fun k x H8 H9 Put Skip hk sm8 hacc hy hput hskip => ?_) (fun H8 sm8 hM => ?_)
        · obtain ⟨rfl, hx⟩ := hy
          obtain ⟨acc8, hacc⟩ := hacc
          obtain ⟨side, hside, hcv⟩ := paired_get' hsome hx
          have es : (someC (cutsUp R i) (i + 1)).getD k [] = side := by
            rw [List.getD_eq_getElem?_getD, hside]
            rfl
          rw [es] at hput hskip
          have ok : SideOk (i + 1) side := some_ok (cuts_ok R i) side (List.mem_of_getElem? hside)
          have hsl : side.length ≤ 1000 := by
            have := nodup_len (i + 2) ok.nd fun x hx => by have := ok.hi x hx; omega
            omega
          have s9 := s8.trans sm8
          have lv8 : Live (D2 :: l) H9 := (lv.same s9).cons hacc
          have hcv8 : CutV K (hid (D2 :: l) H9) x side := mono_cutK K _ _ _ _ (hid_push sm8 nD2) hcv
          have hb2 : (beside side (i + 2)).length ≤ 1000 := Nat.le_trans (List.length_filter_le ..) (by rw [List.length_range]; omega)
          refine ⟨rfl, _, rfl, _, rfl, _, rfl, _, rfl, _, _, rfl, rfl, ?_⟩
          refine ⟨D2 :: l, x, side, i + 2, rfl, lv8, hcv8, by omega, fun u H10 sm10 hu => ?_⟩
          refine ⟨rv, x, u, n, R, side, beside side (i + 2), rfl, rowsUp (s23.trans (t8.trans (sm8.trans sm10))), mono_cutK K _ _ _ _ (Same.trans hid_sub sm10) hcv8, mono_cutK K _ _ _ _ hid_sub hu, fun x hx => by have := ok.hi x hx; omega, fun x hx => by have := beside_lt x hx; omega, hsl, hb2, ok.ne, side_rest ok, fun H11 sm11 => ?_⟩
          refine ⟨_, _, rfl, rfl, _, rfl, ?_⟩
          by_cases hpos : 0 < least R side (beside side (i + 2))
          · rw [decide_eq_true hpos]
            refine iteT ⟨_, rfl, hput _ _ side (sm10.trans sm11) (if_pos (decide_eq_true hpos)) (mono_cutK K _ _ _ _ (hid_mono (sm10.trans sm11)) hcv8)⟩
          · rw [decide_eq_false hpos]
            exact iteF (hskip _ (sm10.trans sm11) (if_neg (fun z => hpos (of_decide_eq_true z))))
        · rw [lenS, fm_list (someC (cutsUp R i) (i + 1)) [] fun s => okC R s (i + 2)] at hM
          exact ⟨D2, _, _, rfl, sm3.trans (t8.trans sm8), hM.ls (mono_cutK K)⟩
    · obtain ⟨f, y4, y5, rfl, sm3, hf⟩ := h
      rw [en] at hf
      have s3 := sf.trans sm3
      have s23 := sf0.trans sm3
      obtain ⟨f', accf, ef, hfa, hfp⟩ := hf
      cases ef
      refine ⟨_, rfl, a, xs, rfl, .inl (.of (s3 _ _ (hid_sub _ _ hxs))), ?_⟩
      rw [hxl]
      refine ⟨_, rfl, f, cutsUp R (n - 1), rfl, ⟨f, accf, rfl, hid_sub _ _ hfa, hfp⟩, fun p acc np hpa => ?_⟩
      have t1 : Same H3 (upd H3 p (.lst acc)) := same_new np
      have hp1 : (upd H3 p (.lst acc)) p = some (.lst acc) := upd_same
      generalize upd H3 p (.lst acc) = H4 at t1 hp1
      have s4 := s3.trans t1
      have lena := hpa.length
      have ecR : cutsUp R (n - 1) = cutsUp M (n - 1) := cuts_scale hs.pos hb hrD (n - 1) (by omega)
      rw [ecR] at hpa lena
      have clen : (cutsUp M (n - 1)).length + 1 ≤ 2048 := Nat.le_trans (cuts_len M (n - 1)) (Nat.le_trans (Nat.pow_le_pow_right (by decide) (show n - 1 ≤ 11 by omega)) (by decide))
      have lena2 : acc.length = (cutsUp M (n - 1)).length := lena.trans (List.length_mergeSort _)
      refine ⟨p, rfl, ⟨_, .of hp1⟩, fun D2 nD2 => ?_⟩
      generalize eS : (cutsUp M (n - 1)).mergeSort (PySem.W.dataLe false fun s => PyData.list (s.map fun n : Nat => PyData.int (n : Int))) = S at hpa lena
      have hSok : ∀ s ∈ S, SideOk (n - 1) s := fun s hs' => cuts_ok M (n - 1) s ((List.mergeSort_perm _ _).mem_iff.mp (eS ▸ hs'))
      refine lc_all (walk_list (xs := acc)) (l := l) (mono_pr (K := K) (mono_cutK K) (mono_frK K)) (fun k => (S.getD k [], fr (least M (S.getD k []) (beside (S.getD k []) n)) (2 * D))) nD2 (lv.same s4) (by omega) (fun H5 sm5 => .of (sm5 _ _ hp1))
        (fun k x H5 H6 Put hk sm5 lv5 hy hput => ?_) (fun H5 sm5 hM => ?_)
      · obtain ⟨rfl, hx⟩ := hy
        obtain ⟨side, hside, hcv⟩ := paired_get' hpa hx
        have es : S.getD k [] = side := by
          rw [List.getD_eq_getElem?_getD, hside]
          rfl
        rw [es] at hput
        have ok : SideOk (n - 1) side := hSok side (List.mem_of_getElem? hside)
        have hsn : ∀ x ∈ side, x < n := fun x hx => by have := ok.hi x hx; omega
        have hsl : side.length ≤ 1000 := by
          have := nodup_len n ok.nd hsn
          omega
        have s6 := s4.trans sm5
        have hcv6 : CutV K (hid (D2 :: l) H6) x side := mono_cutK K _ _ _ _ (hid_push (t1.trans sm5) (t1.free nD2)) hcv
        have hb2 : (beside side n).length ≤ 1000 := Nat.le_trans (List.length_filter_le ..) (by rw [List.length_range]; omega)
        have hrest : beside side n ≠ [] := by
          have := side_rest ok
          rw [show n - 1 + 1 = n by omega] at this
          exact this
        have elst := least_scale hs.pos hb hrD hsn (fun x hx => beside_lt (s := side) (m := n) x hx)
        refine ⟨rfl, _, rfl, _, rfl, _, rfl, _, rfl, _, rfl, D2 :: l, x, side, n, rfl, lv5, hcv6, by omega, fun u H7 sm7 hu => ?_⟩
        refine ⟨rv, x, u, n, R, side, beside side n, rfl, rowsUp (s23.trans (t1.trans (sm5.trans sm7))), mono_cutK K _ _ _ _ (Same.trans hid_sub sm7) hcv6, mono_cutK K _ _ _ _ hid_sub hu, hsn, fun x hx => beside_lt x hx, hsl, hb2, ok.ne, hrest, fun H8 sm8 => ?_⟩
        refine ⟨_, rfl, 2, b, rfl, rfl, wide_mul (a := 3) (by decide) hbs (by decide) (by decide) (by decide), ?_⟩
        refine ⟨D2 :: l, _, _, rfl, (lv5.same (sm7.trans sm8)), by omega, ?_, fun w H9 sm9 hw => ?_⟩
        · show (2 * b).natAbs < 2 ^ 8000
          have h1 : b.natAbs < 2 ^ 1000 := hbs
          have h2 : (2 : Nat) ^ 1000 + 2 ^ 1000 ≤ 2 ^ 8000 := by
            have e : (2 : Nat) ^ 1000 + 2 ^ 1000 = 2 ^ 1001 := by decide
            rw [e]
            exact Nat.pow_le_pow_right (by decide) (by decide)
          omega
        · refine ⟨by show 2 ≤ sizeLine; decide, fun p4 np4 => ?_⟩
          have t9 : Same H9 (upd H9 p4 (.tup [x, w])) := same_new np4
          have ef : fr (least R side (beside side n)) (2 * b) = fr (least M side (beside side n)) (2 * D) := by
            refine fr_eq (by omega) (by have := hs.pos; omega) ?_
            grind
          rw [ef] at hw
          have sm79 := sm7.trans (sm8.trans sm9)
          refine hput _ _ (sm79.trans t9) ⟨p4, x, w, rfl, .of ?_, mono_cutK K _ _ _ _ (hid_mono (sm79.trans t9)) hcv6, mono_frK K _ _ _ _ (hid_mono t9) hw⟩
          rw [hid_out ((lv5.same sm79).out np4), upd_same]
      · refine q _ _ (s4.trans sm5) ?_
        have e := hM.ls (K := K) (mono_pr (K := K) (mono_cutK K) (mono_frK K))
        have lenS : S.length = acc.length := lena.symm
        rw [← lenS] at e
        have e3 : (List.range S.length).map (fun k => (S.getD k [], fr (least M (S.getD k []) (beside (S.getD k []) n)) (2 * D))) = frC (2 * D) (splitsT n M) := by
          unfold frC splitsT
          rw [List.map_map]
          show _ = ((cutsUp M (n - 1)).mergeSort (PySem.W.dataLe false fun s => PyData.list (s.map fun n : Nat => PyData.int (n : Int)))).map _
          rw [eS]
          refine List.ext_getElem? fun k => ?_
          rw [List.getElem?_map, List.getElem?_map]
          by_cases h : k < S.length
          · rw [List.getElem?_range h, List.getElem?_eq_getElem h]
            simp [List.getD_eq_getElem?_getD, List.getElem?_eq_getElem h]
          · rw [List.getElem?_eq_none (by rw [List.length_range]; omega), List.getElem?_eq_none (by omega)]
            rfl
        rw [e3] at e
        exact e
end
end K57
end

section
set_option Elab.async false
set_option linter.all false
set_option maxRecDepth 100000
set_option maxHeartbeats 4000000
set_option exponentiation.threshold 10000
namespace K57
open PySem PySem.Spec PyProof.Rows L2
section
variable {P : Program} {w : World} {K : PySem.W.Frag} {mg : Str → Option Value} {base : Heap} {ad : Nat → Addr} {fd : Nat → FuncData}
/-! ### rest_table -/
theorem splits_pos {n : Nat} {A : Mx} : ∀ c ∈ splitsT n A, 0 ≤ c.2 := by
  intro c hc
  unfold splitsT at hc
  obtain ⟨s, hs, rfl⟩ := List.mem_map.mp hc
  have h1 : s ∈ cutsUp A (n - 1) := (List.mergeSort_perm _ _).mem_iff.mp hs
  clear hs hc
  cases n with
  | zero => simp [cutsUp] at h1
  | succ p =>
    have h1 : s ∈ cutsUp A p := h1
    cases p with
    | zero => simp [cutsUp] at h1
    | succ p => exact Int.le_of_lt (cuts_pos h1)
theorem tabF_two {n : Nat} {D : Int} {A : Mx} (h : 0 < D) : tabF n D A = tabF n (2 * D) fun i j => 2 * A i j := by
  unfold tabF
  congr 1
  funext i j
  exact (fr_scale h (by omega)).symm
def restM (n : Nat) (A : Mx) : Mx := fun i j => 2 * A i j - sumC (splitsT n A) i j
def spRest (K : PySem.W.Frag) : Sp := fun vs H Q _ => ∃ (l : List Addr) (v : V) (n : Nat) (D : Int) (A : Mx), vs = [v] ∧ Live l H ∧ TabV K (hid l H) v (tabF n D A) ∧ TabS n D A ∧ TabS n (2 * D) (fun i j => 2 * A i j) ∧ 1 ≤ n ∧ n ≤ 12 ∧ Long n A ∧
  Sm 1000 (totC (splitsT n A)) ∧ ∀ r H', Same H H' → TabV K (hid l H') r (tabF n (2 * D) (restM n A)) → Q r H'
abbrev N26 : List Str := ["table", "less", "row", "less_row", "one", "other"]
abbrev bk26 : Scope := { kind := .function, names := [(".0", .local), ("row", .local), ("less_row", .local), ("zip", .globalImplicit)], isGenerator := false, isCoroutine := false }
theorem sc26 : FnScope N26 ["table"] (defScope (top 26)) := ⟨rfl, rfl, rfl, by decide +kernel, rfl, by decide +kernel, by decide +kernel⟩
theorem ok26 (T : Txt K mg ad fd) : FnOk P w K mg base CX0 7 (ad 26) (fd 26) ["table"] (spRest K) := by
  have G9 : FnOk P w K mg base CX0 3 (ad 9) (fd 9) ["q", "r"] (spBin K minusF) := ok9 T
  have G25 : FnOk P w K mg base CX0 6 (ad 25) (fd 25) ["table"] (spSplits K) := ok25 T
  have G18 : FnOk P w K mg base CX0 4 (ad 18) (fd 18) ["n", "cuts"] (spTable K) := ok18 T
  refine T.d26.F.ok sc26 (fun vs H Q E h => ?_) (fun cdv A outer s H vs Q E hr h => ?_)
  · obtain ⟨l, v, n, D, A, rfl, _⟩ := h
    rfl
  · obtain ⟨l, u, n, D, M, rfl, lv, ht, hs, hs2, h1n, hn, hlong, htot, q⟩ := h
    have hr3 : Room 3 _ := hr.mono (by decide)
    have hr4 : Room 4 _ := hr.mono (by decide)
    have ht0 := ht
    rw [tabF_two hs.pos] at ht
    obtain ⟨a, rfl, hG⟩ := grid_at ht
    obtain ⟨xs, hxs, hxl, hrow⟩ := id hG
    refine ⟨_, pss_cons (ps_set (i := 1) sc26.nd rfl (.inl rfl) (pe_call G18 hr4 (by rfl) T.d18.g T.d18.F.kp T.d18.b .nil pass0 (pa_cons (pe_callB call_len_seq (by rfl) T.len PySem.boot_len (pa_cons (pv 0) pa_nil)) (pa_cons (pe_call G25 hr (by rfl) T.d25.g T.d25.F.kp T.d25.b .nil pass0 (pa_cons (pv 0) pa_nil)) pa_nil))))
      (pss_one (ps_ret (pe_lc (own := [("row", 2), ("less_row", 3)]) (g := gTup K 2 _) (by rfl) sc26.nd (zipK K (by rfl) T.zip (pa_cons (pv 0) (pa_cons (pv 1) pa_nil))) (blkOk_by (own := [("row", 2), ("less_row", 3)]) (N := N26) (sc := defScope (top 26)) (by decide +kernel))
          (fun _ _ _ _ _ => tgK K (by rfl) (pgs_cons (pg_name (i := 2) sc26.nd rfl (.inl rfl)) (pgs_cons (pg_name (i := 3) sc26.nd rfl (.inl rfl)) pgs_nil))) (fun _ _ _ _ _ => pts_nil) (fun _ _ _ _ _ =>
            pe_lc (own := [("one", 4), ("other", 5)]) (g := gTup K 2 _) (by rfl) sc26.nd (zipK K (by rfl) T.zip (pa_cons (pv 2) (pa_cons (pv 3) pa_nil))) (blkOk_by (own := [("one", 4), ("other", 5)]) (N := N26) (sc := relS bk26 (defScope (top 26))) (by decide +kernel))
              (fun _ _ _ _ _ => tgK K (by rfl) (pgs_cons (pg_name (i := 4) sc26.nd rfl (.inl rfl)) (pgs_cons (pg_name (i := 5) sc26.nd rfl (.inl rfl)) pgs_nil))) (fun _ _ _ _ _ => pts_nil)
              (fun _ _ _ _ _ => pe_call G9 hr3 (by rfl) T.d9.g T.d9.F.kp T.d9.b .nil pass0 (pa_cons (pv 4) (pa_cons (pv 5) pa_nil))))))), ?_⟩
    have D2 : 0 < 2 * D := hs2.pos
    -- less
    refine ⟨_, rfl, a, xs, rfl, .inl (hid_sub.seq hxs), ?_⟩
    rw [hxl]
    refine ⟨_, rfl, l, _, n, D, M, rfl, lv, ht0, hs, h1n, hn, hlong, fun rc H1 sm1 hrc => ?_⟩
    refine ⟨l, rc, n, 2 * D, splitsT n M, rfl, lv.same sm1, hrc, D2, hs2.d, splits_pos, htot, by omega, fun rl H2 sm2 hrl => ?_⟩
    obtain ⟨b, rfl, hG'⟩ := grid_at hrl
    obtain ⟨ys, hys, hyl, hrow'⟩ := id hG'
    have s2 := sm1.trans sm2
    have bsum : ∀ i j, Sm 1000 (sumC (splitsT n M) i j) := fun i j => by
      have h1 := sum_le (splits_pos (n := n) (A := M)) i j
      have h2 : (totC (splitsT n M)).natAbs < 2 ^ 1000 := htot
      show _ < 2 ^ 1000
      omega
    refine ⟨_, rfl, _, rfl, a, b, xs, ys, rfl, up_seq s2 hxs, up_seq (Same.refl _) hys, fun D1 nD1 => ?_⟩
    refine lc_all (walk_zip (xs := xs) (ys := ys) (n := n) (by rw [hxl, hyl, Nat.min_self])) (l := l) (mono_rowK K) (fun i => (List.range n).map fun j => fr (restM n M i j) (2 * D)) nD1 (lv.same s2) (Nat.le_of_lt (small1000 (by omega))) (fun H3 sm3 => ⟨up_seq (s2.trans sm3) hxs, up_seq sm3 hys⟩)
      (fun i x H3 H4 Put hi sm3 lv3 hy hput => ?_) (fun H3 sm3 hM => q _ _ (s2.trans sm3) (hM.ls (mono_rowK K)))
    obtain ⟨t1, x1, y1, rfl, nt1, rfl, e1, e2⟩ := hy
    obtain ⟨ra, us, r1, r2, r3, r4⟩ := hrow i hi
    obtain ⟨rb, ws, r5, r6, r7, r8⟩ := hrow' i hi
    cases e1.symm.trans r1
    cases e2.symm.trans r5
    have s4 : Same H3 (upd H3 t1 (.tup [.ref ra, .ref rb])) := same_new nt1
    have s24 := sm3.trans s4
    have sH := s2.trans s24
    refine ⟨t1, [.ref ra, .ref rb], rfl, .inl (.inl upd_same), rfl, _, _, rfl, _, [], rfl, rfl, rfl, ?_⟩
    refine ⟨_, rfl, _, rfl, ra, rb, us, ws, rfl, up_seq sH r2, up_seq s24 r6, fun D2 nD2 => ?_⟩
    refine lc_all (walk_zip (xs := us) (ys := ws) (n := n) (by rw [r3, r7, Nat.min_self])) (l := D1 :: l) (mono_frK K) (fun j => fr (restM n M i j) (2 * D)) nD2 (lv3.same s4) (Nat.le_of_lt (small1000 (by omega))) (fun H5 sm5 => ⟨up_seq (sH.trans sm5) r2, up_seq (s24.trans sm5) r6⟩)
      (fun j y H5 H6 Put5 hj sm5 lv5 hy5 hput5 => ?_) (fun H5 sm5 hM5 => hput _ _ (s4.trans sm5) (hM5.ls (mono_frK K)))
    obtain ⟨t2, x2, y2, rfl, nt2, rfl, e3, e4⟩ := hy5
    obtain ⟨v1, p1, p2⟩ := r4 j hj
    obtain ⟨v2, p3, p4⟩ := r8 j hj
    cases e3.symm.trans p1
    cases e4.symm.trans p3
    have s5 : Same H5 (upd H5 t2 (.tup [x2, y2])) := same_new nt2
    have s26 := s24.trans (sm5.trans s5)
    have sh : Same (hid l H2) (hid (D2 :: D1 :: l) (upd H5 t2 (.tup [x2, y2]))) := hid_push2 s26 nD1 (s24.free nD2)
    refine ⟨t2, [x2, y2], rfl, .inl (.inl upd_same), rfl, _, _, rfl, _, [], rfl, rfl, rfl, ?_⟩
    refine ⟨_, rfl, _, rfl, D2 :: D1 :: l, x2, y2, _, _, rfl, lv5.same s5, mono_frK K _ _ _ _ (Same.trans (hid_mono s2) sh) p2, mono_frK K _ _ _ _ sh p4, hs2.frS hi hj, frS_of hs2.pos (sm_up (by decide) (bsum i j)) (sm_up (by decide) hs2.d), fun r H7 sm7 hr7 => ?_⟩
    rw [minusF_fr hs2.pos] at hr7
    exact hput5 _ _ (s5.trans sm7) hr7
end
end K57
end

section
set_option Elab.async false
set_option linter.all false
set_option maxRecDepth 100000
set_option maxHeartbeats 4000000
set_option exponentiation.threshold 10000
namespace K57
open PySem PySem.Spec PyProof.Rows L2
section
variable {P : Program} {w : World} {K : PySem.W.Frag} {mg : Str → Option Value} {base : Heap} {ad : Nat → Addr} {fd : Nat → FuncData}
/-! ### the law's own helpers -/
theorem pow_ok {i j : Int} (h : 0 ≤ j ∧ j ≤ 1000000 ∧ i.natAbs < 2 ^ 64) : CPow i j := h
theorem fmod_pos {a m : Int} (h : 0 < m) : 0 ≤ a.fmod m ∧ a.fmod m < m := ⟨Int.fmod_nonneg_of_pos a h, Int.fmod_lt_of_pos a h⟩
def spStir : Sp := fun vs H Q _ => ∃ c k : Int, vs = [.int c, .int k] ∧ 0 ≤ k ∧ k ≤ 10 ∧ ∀ i, Sm 300 i → Q (.int i) H
theorem sc28 : FnScope ["cell", "k", "number"] ["cell", "k"] (defScope (top 28)) := ⟨rfl, rfl, rfl, by decide +kernel, rfl, by decide +kernel, by decide +kernel⟩
theorem sm_of {i : Int} {a : Nat} (h0 : 0 ≤ i) (h : i < 2 ^ a) : Sm a i := by
  have e : ((i.natAbs : Nat) : Int) < ((2 ^ a : Nat) : Int) := by
    rw [Int.natAbs_of_nonneg h0]
    exact_mod_cast h
  exact Int.ofNat_lt.mp e
theorem sm_mulA {i j : Int} {a b : Nat} (h1 : Sm a i) (h2 : Sm b j) : Sm (a + b) (i * j) := wide_lt h1 h2
theorem sm_addA {i j : Int} {a : Nat} (h1 : Sm a i) (h2 : Sm a j) : Sm (a + 1) (i + j) := by
  have h1 : i.natAbs < 2 ^ a := h1
  have h2 : j.natAbs < 2 ^ a := h2
  show (i + j).natAbs < 2 ^ (a + 1)
  rw [Nat.pow_succ]
  omega
theorem ok28 (T : Txt K mg ad fd) : FnOk P w K mg base CX0 1 (ad 28) (fd 28) ["cell", "k"] spStir := by
  refine T.d28.F.ok sc28 (fun vs H Q E h => ?_) (fun cdv A outer s H vs Q E hr h => ?_)
  · obtain ⟨c, k, rfl, _⟩ := h
    rfl
  · obtain ⟨c, k, rfl, k0, k1, q⟩ := h
    refine ⟨_, pss_cons (ps_set (i := 2) sc28.nd rfl (.inl rfl) (pe_op op_add (pe_op op_add (pe_op op_mulW (pe_op op_modN (pv 0) (pe_op op_pow pe_int pe_int)) pe_int) (pe_op op_mulW (pe_op op_mulW (pe_op op_pow pe_int pe_int) (pe_op op_add (pv 1) pe_int)) (pe_op op_add (pv 1) pe_int))) (pv 1)))
      (pss_cons (ps_set (i := 2) sc28.nd rfl (.inl rfl) (pe_op op_add (pe_op op_mulW (pv 2) (pv 2)) (pe_op op_mulW pe_int (pv 2))))
      (pss_one (ps_ret (pe_op op_fdivW (pe_op op_modN (pe_op op_mulW (pv 2) (pv 2)) (pe_op op_add (pe_op op_pow pe_int pe_int) pe_int)) pe_int)))), ?_⟩
    have p10 : (0 : Int) < (10 : Int) ^ (40 : Int).toNat := by decide
    have m1 := fmod_pos (a := c) p10
    have a1 : Sm 140 (c.fmod ((10 : Int) ^ (40 : Int).toNat)) := sm_of m1.1 (Int.lt_trans m1.2 (by decide))
    have a2 : Sm 16 48271 := by decide
    have a3 : Sm 100 ((3 : Int) ^ (60 : Int).toNat) := by decide
    have a4 : Sm 4 (k + 1) := by show _ < 2 ^ 4; omega
    have a5 : Sm 17 69621 := by decide
    have a6 : Sm 4 k := by show _ < 2 ^ 4; omega
    have b1 := sm_mulA a1 a2
    have b2 := sm_mulA a3 a4
    have b3 := sm_mulA b2 a4
    have b4 := sm_addA (a := 156) b1 (sm_up (by decide) b3)
    have b5 := sm_addA (a := 157) b4 (sm_up (by decide) a6)
    refine ⟨_, rfl, 10, 40, rfl, rfl, by unfold CPow; decide, _, _, rfl, rfl, Int.ne_of_gt p10, _, _, rfl, rfl, wide_mul (a := 140) (b := 16) a1 a2 (by decide) (by decide) (by decide), 3, 60, rfl, rfl, by unfold CPow; decide, _, rfl, _, _, rfl, rfl, ?_⟩
    refine ⟨_, _, rfl, rfl, wide_mul (a := 100) (b := 4) a3 a4 (by decide) (by decide) (by decide), _, rfl, _, _, rfl, rfl, ?_⟩
    refine ⟨_, _, rfl, rfl, wide_mul (a := 104) (b := 4) b2 a4 (by decide) (by decide) (by decide), _, _, rfl, rfl, _, rfl, _, _, rfl, rfl, ?_⟩
    have c1 := sm_mulA b5 b5
    have c2 := sm_mulA a5 b5
    have c3 := sm_addA (a := 316) c1 (sm_up (by decide) c2)
    have c4 := sm_mulA c3 c3
    refine ⟨_, rfl, _, rfl, _, _, rfl, rfl, wide_mul (a := 158) (b := 158) b5 b5 (by decide) (by decide) (by decide), _, rfl, _, _, rfl, rfl, wide_mul (a := 17) (b := 158) a5 b5 (by decide) (by decide) (by decide), _, _, rfl, rfl, ?_⟩
    refine ⟨_, rfl, _, rfl, _, _, rfl, rfl, wide_mul (a := 317) (b := 317) c3 c3 (by decide) (by decide) (by decide), 10, 61, rfl, rfl, by unfold CPow; decide, _, _, rfl, rfl, _, _, rfl, rfl, (show (10 : Int) ^ (61 : Int).toNat + 7 ≠ 0 by decide), _, 8, rfl, rfl, wide_div (b := 4) (by decide) (by decide) (by decide) (by decide), ?_⟩
    refine q _ (sm_ediv ?_)
    have p61 : (0 : Int) < (10 : Int) ^ (61 : Int).toNat + 7 := by decide
    have m2 := fun x => fmod_pos (a := x) p61
    exact sm_of (m2 _).1 (Int.lt_trans (m2 _).2 (by decide))
/-! ### _law_deck -/
def spDeck : Sp := fun vs H Q _ => ∃ c : Int, vs = [.int c] ∧ ∀ p d, H p = none → Q (.ref p) (upd H p (.lst [.int d]))
theorem sc29 : FnScope ["cell"] ["cell"] (defScope (top 29)) := ⟨rfl, rfl, rfl, by decide +kernel, rfl, by decide +kernel, by decide +kernel⟩
theorem ok29 (T : Txt K mg ad fd) : FnOk P w K mg base CX0 2 (ad 29) (fd 29) ["cell"] spDeck := by
  have G28 : FnOk P w K mg base CX0 1 (ad 28) (fd 28) ["cell", "k"] spStir := ok28 T
  refine T.d29.F.ok sc29 (fun vs H Q E h => ?_) (fun cdv A outer s H vs Q E hr h => ?_)
  · obtain ⟨c, rfl, _⟩ := h
    rfl
  · obtain ⟨c, rfl, q⟩ := h
    refine ⟨_, pss_cons (ps_if (pt_cmpR op_ge (pv 0) (pe_op op_pow pe_int pe_int) (nomark _)) (pss_one (ps_ret (pe_lst (pa_cons (pe_op op_sub (pv 0) (pe_op op_pow pe_int pe_int)) pa_nil)))) pss_nil)
      (pss_one (ps_ret (pe_lst (pa_cons (pe_op op_add (pe_op op_mulW (pe_op op_add (pe_op op_mulW (pe_call G28 hr (by rfl) T.d28.g T.d28.F.kp T.d28.b .nil pass0 (pa_cons (pv 0) (pa_cons pe_int pa_nil))) (pe_op op_pow pe_int pe_int))
        (pe_call G28 hr (by rfl) T.d28.g T.d28.F.kp T.d28.b .nil pass0 (pa_cons (pv 0) (pa_cons pe_int pa_nil)))) (pe_op op_pow pe_int pe_int)) (pe_call G28 hr (by rfl) T.d28.g T.d28.F.kp T.d28.b .nil pass0 (pa_cons (pv 0) (pa_cons pe_int pa_nil)))) pa_nil)))), ?_⟩
    have p60 : Sm 200 ((10 : Int) ^ (60 : Int).toNat) := by decide
    refine ⟨_, rfl, 10, 18, rfl, rfl, by unfold CPow; decide, _, _, rfl, rfl, _, rfl, ?_⟩
    refine ite2 (fun _ => ?_) (fun _ => ?_)
    · exact ⟨_, rfl, 10, 18, rfl, rfl, by unfold CPow; decide, _, _, rfl, rfl, by show 1 ≤ sizeLine; decide, fun p hp => q p _ hp⟩
    · refine ⟨_, rfl, c, 1, rfl, by decide, by decide, fun i1 h1 => ?_⟩
      refine ⟨10, 60, rfl, rfl, by unfold CPow; decide, _, _, rfl, rfl, wide_mul (a := 300) (b := 200) h1 p60 (by decide) (by decide) (by decide), ?_⟩
      refine ⟨_, rfl, c, 2, rfl, by decide, by decide, fun i2 h2 => ?_⟩
      have b1 := sm_addA (a := 500) (sm_mulA h1 p60) (sm_up (by decide) h2)
      refine ⟨_, _, rfl, rfl, 10, 60, rfl, rfl, by unfold CPow; decide, _, _, rfl, rfl, wide_mul (a := 501) (b := 200) b1 p60 (by decide) (by decide) (by decide), ?_⟩
      refine ⟨_, rfl, c, 3, rfl, by decide, by decide, fun i3 h3 => ?_⟩
      exact ⟨_, _, rfl, rfl, by show 1 ≤ sizeLine; decide, fun p hp => q p _ hp⟩
/-! ### _law_take -/
def spTake : Sp := fun vs H Q _ => ∃ (a : Addr) (d m : Int), vs = [.ref a, .int m] ∧ H a = some (.lst [.int d]) ∧ 0 < m ∧ Sm 8000 m ∧ ∀ r d', 0 ≤ r → r < m → Q (.int r) (upd H a (.lst [.int d']))
theorem sc30 : FnScope ["deck", "many", "taken"] ["deck", "many"] (defScope (top 30)) := ⟨rfl, rfl, rfl, by decide +kernel, rfl, by decide +kernel, by decide +kernel⟩
theorem ok30 (T : Txt K mg ad fd) : FnOk P w K mg base CX0 1 (ad 30) (fd 30) ["deck", "many"] spTake := by
  refine T.d30.F.ok sc30 (fun vs H Q E h => ?_) (fun cdv A outer s H vs Q E hr h => ?_)
  · obtain ⟨a, d, m, rfl, _⟩ := h
    rfl
  · obtain ⟨a, d, m, rfl, ha, h0, hm, q⟩ := h
    refine ⟨_, pss_cons (ps_set (i := 2) sc30.nd rfl (.inl rfl) (pe_op op_modN (pe_ix (ixlK K) (pv 0) pe_int (fun _ _ => rfl)) (pv 1)))
      (pss_cons (ps_asg (pe_op op_fdivW (pe_ix (ixlK K) (pv 0) pe_int (fun _ _ => rfl)) (pv 1)) (pg_sub (pv 0) pe_int set_list))
      (pss_one (ps_ret (pv 2)))), ?_⟩
    have mm := fmod_pos (a := d) h0
    refine ⟨_, rfl, a, _, 0, .int d, rfl, rfl, .of ha, rfl, _, rfl, _, _, rfl, rfl, Int.ne_of_gt h0, ?_⟩
    refine ⟨_, rfl, a, _, 0, .int d, rfl, rfl, .of ha, rfl, _, rfl, _, _, rfl, rfl, wide_div h0 hm (by decide) (by decide), ?_⟩
    exact ⟨_, rfl, a, [.int d], 0, 0, rfl, rfl, ha, rfl, _, rfl, q _ _ mm.1 mm.2⟩
/-! ### _law_fraction -/
theorem sc31 : FnScope ["top", "bottom", "one", "other", "rest"] ["top", "bottom"] (defScope (top 31)) := ⟨rfl, rfl, rfl, by decide +kernel, rfl, by decide +kernel, by decide +kernel⟩
theorem gcd_abs (i j : Int) : Int.gcd (if i < 0 then -i else i) j = Int.gcd i j := by
  split
  · exact Int.neg_gcd ..
  · rfl
theorem ok31 (T : Txt K mg ad fd) : FnOk P w K mg base CX0 1 (ad 31) (fd 31) ["top", "bottom"] (spFraction K) := by
  refine T.d31.F.ok sc31 (fun vs H Q E h => ?_) (fun cdv A outer s H vs Q E hr h => ?_)
  · obtain ⟨l, i, j, rfl, _⟩ := h
    rfl
  · obtain ⟨l, i, j, rfl, lv, h0, hj, q⟩ := h
    refine ⟨_, pss_cons (ps_set (i := 2) sc31.nd rfl (.inl rfl) (pe_callB call_abs (by rfl) T.abs boot_abs (pa_cons (pv 0) pa_nil)))
      (pss_cons (ps_set (i := 3) sc31.nd rfl (.inl rfl) (pv 1))
      (pss_cons (ps_while PassesOwn.never (pt_cmpR op_ne (pv 3) pe_int (nomark _)) (pss_cons (ps_set (i := 4) sc31.nd rfl (.inl rfl) (pe_op op_modN (pv 2) (pv 3)))
        (pss_cons (ps_set (i := 2) sc31.nd rfl (.inl rfl) (pv 3)) (pss_one (ps_set (i := 3) sc31.nd rfl (.inl rfl) (pv 4))))))
      (pss_one (ps_ret (pe_tup (pa_cons (pe_op op_fdivW (pv 0) (pv 2)) (pa_cons (pe_op op_fdivW (pv 1) (pv 2)) pa_nil))))))), ?_⟩
    refine ⟨_, rfl, i, rfl, _, rfl, ?_⟩
    refine ⟨fun m σ H2 => ∃ (x y : Int) (y4 : Option V), σ = [some (.int i), some (.int j), some (.int x), some (.int y), y4] ∧ 0 ≤ x ∧ 0 ≤ y ∧ Int.gcd x y = Int.gcd i j ∧ m = y.natAbs ∧ H2 = H, ⟨_, _, j, none, rfl, by split <;> omega, by omega, gcd_abs i j, rfl, rfl⟩, ?_⟩
    rintro m σ H2 ⟨x, y, y4, rfl, x0, y0, e, rfl, rfl⟩
    refine ⟨.int y, rfl, rfl, _, rfl, ?_⟩
    by_cases hy : y = 0
    · subst hy
      rw [show (!decide (V.int 0 = V.int 0)) = false by decide]
      refine iteF ?_
      have ex : x = (Int.gcd i j : Int) := by
        rw [← e, Int.gcd_zero]
        omega
      subst ex
      have hd : CDivW i (Int.gcd i j : Int) := wide_div (gcd_pos h0) (Nat.lt_of_le_of_lt (gcd_le h0) hj) (by decide) (by decide)
      have hd2 : CDivW j (Int.gcd i j : Int) := hd
      refine ⟨_, rfl, _, rfl, _, _, rfl, rfl, hd, _, rfl, _, rfl, _, _, rfl, rfl, hd2, by show 2 ≤ sizeLine; decide, fun p hp => ?_⟩
      refine q _ _ (same_new hp) ⟨p, rfl, .of ?_⟩
      rw [hid_out (lv.out hp), upd_same]
      rfl
    · rw [show (!decide (V.int y = V.int 0)) = true by
        rw [decide_eq_false]
        · rfl
        · intro z
          exact hy (V.int.inj z)]
      refine iteT ?_
      refine ⟨fun σ' H' => ∃ (x' y' : Int) (y4 : Option V), σ' = [some (.int i), some (.int j), some (.int x'), some (.int y'), y4] ∧ 0 ≤ x' ∧ 0 ≤ y' ∧ Int.gcd x' y' = Int.gcd i j ∧ y'.natAbs < y.natAbs ∧ H' = H2, fun σ' H' hn => ?_, ?_⟩
      · obtain ⟨x', y', y4', e1, e2, e3, e4, e5, e6⟩ := hn
        exact ⟨_, e5, x', y', y4', e1, e2, e3, e4, rfl, e6⟩
      · refine ⟨_, rfl, _, rfl, x, y, rfl, rfl, hy, _, rfl, _, rfl, ?_⟩
        exact ⟨y, x.fmod y, _, rfl, y0, (fmod_pos (show 0 < y by omega)).1, (gcd_turn x y).trans e, fmod_small hy, rfl⟩
/-! ### _law_table -/
abbrev N32 : List Str := ["rows", "bottom", "row", "number"]
abbrev bk32 : Scope := { kind := .function, names := [(".0", .local), ("row", .local), ("bottom", .free)], isGenerator := false, isCoroutine := false }
theorem sc32 : FnScope N32 ["rows", "bottom"] (defScope (top 32)) := ⟨rfl, rfl, rfl, by decide +kernel, rfl, by decide +kernel, by decide +kernel⟩
def spLTab (K : PySem.W.Frag) : Sp := fun vs H Q _ => ∃ (l : List Addr) (v : V) (n : Nat) (D : Int) (A : Mx), vs = [v, .int D] ∧ Live l H ∧ RowsV K (hid l H) v (matL n A) ∧ 0 < D ∧ Sm 8000 D ∧ n ≤ 1000 ∧
  ∀ r H', Same H H' → TabV K (hid l H') r (tabF n D A) → Q r H'
theorem ok32 (T : Txt K mg ad fd) : FnOk P w K mg base CX0 2 (ad 32) (fd 32) ["rows", "bottom"] (spLTab K) := by
  have G31 : FnOk P w K mg base CX0 1 (ad 31) (fd 31) ["top", "bottom"] (spFraction K) := ok31 T
  refine T.d32.F.ok sc32 (fun vs H Q E h => ?_) (fun cdv A outer s H vs Q E hr h => ?_)
  · obtain ⟨l, v, n, D, A, rfl, _⟩ := h
    rfl
  · obtain ⟨l, v, n, D, M, rfl, lv, ht, hD, hDs, hn, q⟩ := h
    rw [matL_eq] at ht
    obtain ⟨a, xs, rfl, hxs, hxl, hrow⟩ := grid_tr ht
    refine ⟨_, pss_one (ps_ret (pe_lc (own := [("row", 2)]) (g := gName 2) (by rfl) sc32.nd (lstK K (pv 0)) (blkOk_by (own := [("row", 2)]) (N := N32) (sc := defScope (top 32)) (by decide +kernel))
          (fun _ _ _ _ _ => pg_name (i := 2) sc32.nd rfl (Or.inl rfl)) (fun _ _ _ _ _ => pts_nil) (fun _ _ _ _ _ =>
            pe_lc (own := [("number", 3)]) (g := gName 3) (by rfl) sc32.nd (lstK K (pv 2)) (blkOk_by (own := [("number", 3)]) (N := N32) (sc := relS bk32 (defScope (top 32))) (by decide +kernel))
              (fun _ _ _ _ _ => pg_name (i := 3) sc32.nd rfl (Or.inl rfl)) (fun _ _ _ _ _ => pts_nil)
              (fun _ _ _ _ _ => pe_call G31 hr (by rfl) T.d31.g T.d31.F.kp T.d31.b .nil pass0 (pa_cons (pv 3) (pa_cons (pv 1) pa_nil)))))), ?_⟩
    refine ⟨_, rfl, a, rfl, ⟨_, .of (hid_sub _ _ hxs)⟩, fun D1 nD1 => ?_⟩
    refine lc_all (walk_list (xs := xs)) (l := l) (mono_rowK K) (fun i => (List.range n).map fun j => fr (M i j) D) nD1 lv (by rw [hxl]; exact Nat.le_of_lt (small1000 hn)) (fun H2 sm2 => .of (sm2 _ _ (hid_sub _ _ hxs)))
      (fun i x H2 H3 Put hi sm2 lv2 hy hput => ?_) (fun H2 sm2 hM => q _ _ sm2 (by have e := hM.ls (K := K) (mono_rowK K); rw [hxl] at e; exact e))
    obtain ⟨rfl, hx⟩ := hy
    rw [hxl] at hi
    obtain ⟨ra, us, r1, r2, r3⟩ := hrow i hi
    cases hx.symm.trans r1
    have hul : us.length = n := by
      have := r3.length
      rw [List.length_map, List.length_range] at this
      exact this
    refine ⟨rfl, _, rfl, ra, rfl, ⟨_, .of (sm2 _ _ (hid_sub _ _ r2))⟩, fun D2 nD2 => ?_⟩
    refine lc_all (walk_list (xs := us)) (l := D1 :: l) (mono_frK K) (fun j => fr (M i j) D) nD2 lv2 (by rw [hul]; exact Nat.le_of_lt (small1000 hn)) (fun H4 sm4 => .of (sm4 _ _ (sm2 _ _ (hid_sub _ _ r2))))
      (fun j y H4 H5 Put5 hj sm4 lv4 hy5 hput5 => ?_) (fun H4 sm4 hM4 => hput _ _ sm4 (by have e := hM4.ls (K := K) (mono_frK K); rw [hul] at e; exact e))
    obtain ⟨rfl, hx5⟩ := hy5
    rw [hul] at hj
    obtain ⟨v, p1, p2⟩ := paired_map_take r3 hj
    cases hx5.symm.trans p1
    cases (show y = V.int (M i j) from p2)
    exact ⟨rfl, _, rfl, _, rfl, D2 :: D1 :: l, _, _, rfl, lv4, hD, hDs, fun r H6 sm6 hr6 => hput5 _ _ sm6 hr6⟩
end
end K57
end

section
set_option Elab.async false
set_option linter.all false
set_option maxRecDepth 100000
set_option maxHeartbeats 4000000
set_option exponentiation.threshold 10000
namespace K57
open PySem PySem.Spec PyProof.Rows L2
/-! ### sided tables -/
structure Sided (n : Nat) (D f : Int) (s : Nat → Bool) : Prop where
  sh : Shape n s
  f0 : 1 ≤ f
  f1 : f ≤ 10 ^ 20
  d0 : 1 ≤ D
  d1 : D ≤ 9
/-- the deck is at a; all else stands -/
def DeckS (H : Hp) (a : Addr) (H' : Hp) : Prop := Same (hid [a] H) (hid [a] H') ∧ ∃ d : Int, H' a = some (.lst [.int d])
section
variable {H H' H'' : Hp} {a p : Addr} {o : HO}
theorem DeckS.refl {d : Int} (h : H a = some (.lst [.int d])) : DeckS H a H := ⟨Same.refl _, d, h⟩
theorem DeckS.ne (h : DeckS H a H') (e : H' p = none) : p ≠ a := fun q => by
  obtain ⟨_, d, h⟩ := h
  rw [q, h] at e
  cases e
theorem DeckS.same (h : DeckS H a H') (e : Same H' H'') : DeckS H a H'' := ⟨h.1.trans (hid_mono e), h.2.elim fun d q => ⟨d, e _ _ q⟩⟩
theorem DeckS.new (h : DeckS H a H') (e : H' p = none) : DeckS H a (upd H' p o) := h.same (same_new e)
theorem DeckS.take {d : Int} (h : DeckS H a H') : DeckS H a (upd H' a (.lst [.int d])) := ⟨by rw [hid_write (by simp)]; exact h.1, d, upd_same⟩
theorem DeckS.free (h : DeckS H a H') (e : H' p = none) : H p = none := by
  have hp := h.ne e
  cases q : H p with
  | none => rfl
  | some o =>
    have : hid [a] H p = some o := by rw [hid_out (by simpa using hp)]; exact q
    have := hid_sub _ _ (h.1 _ _ this)
    rw [e] at this
    cases this
theorem DeckS.put (h : DeckS H a H') (n : p ≠ a) (e : H p = none) : DeckS H a (upd H' p o) := by
  obtain ⟨h1, d, h2⟩ := h
  refine ⟨?_, d, by rw [upd_ne (Ne.symm n)]; exact h2⟩
  rw [hid_upd (by simpa using n)]
  refine same_write h1 ?_
  rw [hid_out (by simpa using n)]
  exact e
theorem DeckS.trans (h : DeckS H a H') (h' : DeckS H' a H'') : DeckS H a H'' := ⟨h.1.trans h'.1, h'.2⟩
theorem DeckS.live (h : DeckS H a H') : Live [a] H' := fun b hb => by
  obtain ⟨_, d, h2⟩ := h
  have e : b = a := by simpa using hb
  rw [e, h2]
  simp
end
/-- a grid of whole numbers that is being written -/
def GridI (H : Hp) (D : Addr) (n : Nat) (rs : List Addr) (R : Mx) : Prop :=
  H D = some (.lst (rs.map V.ref)) ∧ rs.length = n ∧ rs.Nodup ∧ D ∉ rs ∧ ∀ i r, rs[i]? = some r → H r = some (.lst ((List.range n).map fun j => V.int (R i j)))
section
variable {K : PySem.W.Frag} {H H' : Hp} {D : Addr} {n : Nat} {rs : List Addr} {R R' : Mx}
theorem GridI.upd {x : Addr} {o : HO} (h : GridI H D n rs R) (h1 : x ≠ D) (h2 : x ∉ rs) : GridI (L2.upd H x o) D n rs R := by
  obtain ⟨a, b, c, d, e⟩ := h
  refine ⟨by rw [upd_ne (Ne.symm h1)]; exact a, b, c, d, fun i r hr => ?_⟩
  have nr : r ≠ x := fun q => h2 (by rw [← q]; exact List.mem_of_getElem? hr)
  rw [upd_ne nr]
  exact e i r hr
theorem GridI.same (h : GridI H D n rs R) (e : Same H H') : GridI H' D n rs R := by
  obtain ⟨a, b, c, d, f⟩ := h
  exact ⟨e _ _ a, b, c, d, fun i r hr => e _ _ (f i r hr)⟩
theorem GridI.congr (h : GridI H D n rs R) (e : ∀ i j, i < n → j < n → R i j = R' i j) : GridI H D n rs R' := by
  obtain ⟨a, b, c, d, f⟩ := h
  refine ⟨a, b, c, d, fun i r hr => ?_⟩
  have hi : i < n := by rw [← b]; exact (List.getElem?_eq_some_iff.mp hr).1
  rw [f i r hr]
  congr 2
  refine List.map_congr_left fun j hj => ?_
  rw [e i j hi (List.mem_range.mp hj)]
theorem GridI.put {i j : Nat} {r : Addr} {z : Int} (h : GridI H D n rs R) (hr : rs[i]? = some r) (hj : j < n) : GridI (L2.upd H r (.lst (((List.range n).map fun j => V.int (R i j)).set j (.int z)))) D n rs (fun x y => if x = i ∧ y = j then z else R x y) := by
  obtain ⟨h1, h2, h3, h4, h5⟩ := h
  have hmem : r ∈ rs := List.mem_of_getElem? hr
  have nD : D ≠ r := fun e => h4 (e ▸ hmem)
  refine ⟨by rw [upd_ne nD]; exact h1, h2, h3, h4, fun x r' hr' => ?_⟩
  by_cases hx : x = i
  · subst hx
    cases hr.symm.trans hr'
    rw [upd_same]
    congr 2
    refine List.ext_getElem? fun y => ?_
    by_cases hy : y < n
    · by_cases hyj : y = j
      · subst hyj
        rw [List.getElem?_set_self (by simp; exact hy), List.getElem?_map, List.getElem?_range hy]
        simp
      · rw [List.getElem?_set_ne (Ne.symm hyj), List.getElem?_map, List.getElem?_map, List.getElem?_range hy]
        simp [hyj]
    · rw [List.getElem?_eq_none (by simp; omega), List.getElem?_eq_none (by simp; omega)]
  · have nr : r' ≠ r := fun e => by
      subst e
      obtain ⟨l1, e1⟩ := List.getElem?_eq_some_iff.mp hr
      obtain ⟨l2, e2⟩ := List.getElem?_eq_some_iff.mp hr'
      exact hx ((List.getElem_inj h3).mp (e2.trans e1.symm))
    rw [upd_ne nr, h5 x r' hr']
    congr 2
    refine List.map_congr_left fun y _ => ?_
    show V.int (R x y) = V.int (if x = i ∧ y = j then z else R x y)
    rw [if_neg (fun q => hx q.1)]
theorem GridI.rows {l : List Addr} (h : GridI H D n rs R) (h1 : D ∉ l) (h2 : ∀ r ∈ rs, r ∉ l) : RowsV K (hid l H) (.ref D) (matL n R) := by
  obtain ⟨e1, e2, e3, e4, e5⟩ := h
  refine ⟨D, rs.map V.ref, rfl, by rw [hid_out h1]; exact e1, ?_⟩
  unfold matL
  have key : ∀ (k : Nat), k ≤ n → Paired (LsV K IntV (hid l H)) ((rs.take k).map V.ref) ((List.range k).map fun i => (List.range n).map fun j => R i j) := by
    intro k
    induction k with
    | zero => intro _; exact .nil
    | succ k ih =>
      intro hk
      have hr : rs[k]? = some (rs[k]'(by omega)) := List.getElem?_eq_getElem (by omega)
      rw [List.take_add_one, hr, List.range_succ, List.map_append, List.map_append]
      refine paired_append (ih (by omega)) (.cons ⟨_, _, rfl, by rw [hid_out (h2 _ (List.mem_of_getElem? hr))]; exact e5 k _ hr, ?_⟩ .nil)
      have e := int_paired (H := hid l H) ((List.range n).map fun j => R k j)
      rw [List.map_map] at e
      exact e
  have e := key n (Nat.le_refl _)
  rw [List.take_of_length_le (by omega)] at e
  exact e
end
theorem tabF_congr {n : Nat} {D : Int} {A B : Mx} (h : ∀ i j, i < n → j < n → A i j = B i j) : tabF n D A = tabF n D B := by
  unfold tabF matG
  refine List.map_congr_left fun i hi => List.map_congr_left fun j hj => ?_
  show fr (A i j) D = fr (B i j) D
  rw [h i j (List.mem_range.mp hi) (List.mem_range.mp hj)]
end K57
end

section
set_option Elab.async false
set_option linter.all false
set_option maxRecDepth 100000
set_option maxHeartbeats 4000000
set_option exponentiation.threshold 10000
namespace K57
open PySem PySem.Spec PyProof.Rows L2
section
variable {P : Program} {w : World} {K : PySem.W.Frag} {mg : Str → Option Value} {base : Heap} {ad : Nat → Addr} {fd : Nat → FuncData}
/-! ### _law_sided -/
theorem erase_map {α β : Type} (f : α → β) : ∀ (l : List α) (z : Nat), (l.map f).eraseIdx z = (l.eraseIdx z).map f
  | [], _ => by simp
  | _ :: _, 0 => by simp
  | a :: l, z + 1 => by
    rw [List.map_cons, List.eraseIdx_cons_succ, List.eraseIdx_cons_succ, List.map_cons, erase_map f l z]
theorem perm_erase {α : Type} : ∀ (l : List α) (z : Nat) (h : z < l.length), ([l[z]] ++ l.eraseIdx z).Perm l
  | [], _, h => absurd h (by simp)
  | a :: l, 0, _ => by simp
  | a :: l, z + 1, h => by
    have h' : z < l.length := by simpa using h
    have ih := perm_erase l z h'
    rw [List.eraseIdx_cons_succ, List.getElem_cons_succ]
    refine List.Perm.trans (List.Perm.swap a l[z] (l.eraseIdx z)) ?_
    exact List.Perm.cons a ih
theorem perm_get {O : List Nat} {n : Nat} (h : O.Perm (List.range n)) {x : Nat} (hx : x < n) : ∃ i, i < n ∧ O.getD i 0 = x := by
  have hm : x ∈ O := h.mem_iff.mpr (List.mem_range.mpr hx)
  obtain ⟨i, hi, e⟩ := List.mem_iff_getElem.mp hm
  have hl := h.length_eq
  rw [List.length_range] at hl
  refine ⟨i, by omega, ?_⟩
  rw [List.getD_eq_getElem?_getD, List.getElem?_eq_getElem hi]
  exact e
theorem shape_of {O : List Nat} {n few : Nat} (h : O.Perm (List.range n)) (h1 : 2 ≤ few) (h2 : few + 2 ≤ n) (h5 : 5 ≤ n) (h7 : n ≤ 7) : Shape n fun i => decide (O.getD i 0 < few) := by
  have two : ∀ x y, x < n → y < n → x ≠ y → ∃ a b, a < n ∧ b < n ∧ a ≠ b ∧ O.getD a 0 = x ∧ O.getD b 0 = y := by
    intro x y hx hy hxy
    obtain ⟨a, ha, ea⟩ := perm_get h hx
    obtain ⟨b, hb, eb⟩ := perm_get h hy
    exact ⟨a, b, ha, hb, fun e => hxy (by rw [← ea, ← eb, e]), ea, eb⟩
  refine ⟨h5, h7, ?_, ?_⟩
  · obtain ⟨a, b, ha, hb, hab, ea, eb⟩ := two 0 1 (by omega) (by omega) (by omega)
    exact ⟨a, b, ha, hb, hab, decide_eq_true (by omega), decide_eq_true (by omega)⟩
  · obtain ⟨a, b, ha, hb, hab, ea, eb⟩ := two (n - 1) (n - 2) (by omega) (by omega) (by omega)
    exact ⟨a, b, ha, hb, hab, decide_eq_false (by omega), decide_eq_false (by omega)⟩
def rowK (far : Int) (few : Nat) : Mx := fun x y => if x = y then 0 else far * (if decide (x < few) = decide (y < few) then 2 else 1)
theorem rowK_sided {O : List Nat} {n few : Nat} {far : Int} (h : O.Perm (List.range n)) {i j : Nat} (hi : i < n) (hj : j < n) : rowK far few (O.getD i 0) (O.getD j 0) = sidedM far (fun i => decide (O.getD i 0 < few)) i j := by
  have hl := h.length_eq
  rw [List.length_range] at hl
  have hnd : O.Nodup := h.nodup_iff.mpr List.nodup_range
  have inj : O.getD i 0 = O.getD j 0 ↔ i = j := by
    rw [List.getD_eq_getElem?_getD, List.getD_eq_getElem?_getD, List.getElem?_eq_getElem (by omega), List.getElem?_eq_getElem (by omega)]
    exact List.getElem_inj hnd
  unfold rowK sidedM Kof
  by_cases e : i = j
  · rw [if_pos (inj.mpr e), if_pos e, Int.mul_zero]
  · rw [if_neg (fun q => e (inj.mp q)), if_neg e]
def spSided (K : PySem.W.Frag) : Sp := fun vs H Q _ => ∃ (a : Addr) (d : Int), vs = [.ref a] ∧ H a = some (.lst [.int d]) ∧
  ∀ r H' n D f s, DeckS H a H' → Sided n D f s → TabV K (hid [a] H') r (tabF n D (sidedM f s)) → Q r H'
abbrev N33 : List Str := ["deck", "few", "more", "n", "far", "one", "other", "rows", "left", "order", "k"]
abbrev bk33 : Scope := { kind := .function, names := [(".0", .local), ("one", .local), ("range", .globalImplicit), ("n", .free)], isGenerator := false, isCoroutine := false }
theorem sc33 : FnScope N33 ["deck"] (defScope (top 33)) := ⟨rfl, rfl, rfl, by decide +kernel, rfl, by decide +kernel, by decide +kernel⟩
def midI (R : Mx) (i j : Nat) : Mx := fun x y => if x < i ∨ (x = i ∧ y < j) then R x y else 0
theorem ok33 (T : Txt K mg ad fd) : FnOk P w K mg base CX0 3 (ad 33) (fd 33) ["deck"] (spSided K) := by
  have G30 : FnOk P w K mg base CX0 1 (ad 30) (fd 30) ["deck", "many"] spTake := ok30 T
  have G32 : FnOk P w K mg base CX0 2 (ad 32) (fd 32) ["rows", "bottom"] (spLTab K) := ok32 T
  have G13 : FnOk P w K mg base CX0 1 (ad 13) (fd 13) ["table", "points"] (spPart K) := ok13 T
  refine T.d33.F.ok sc33 (fun vs H Q E h => ?_) (fun cdv A outer s H vs Q E hr h => ?_)
  · obtain ⟨a, d, rfl, _⟩ := h
    rfl
  · obtain ⟨a, d, rfl, hd0, q⟩ := h
    have hr1 : Room 1 _ := hr.mono (by decide)
    refine ⟨_, pss_cons (ps_asg (pe_ix (ixlK K) (pe_lst (pa_cons (pe_tup (pa_cons pe_int (pa_cons pe_int pa_nil))) (pa_cons (pe_tup (pa_cons pe_int (pa_cons pe_int pa_nil))) (pa_cons (pe_tup (pa_cons pe_int (pa_cons pe_int pa_nil))) (pa_cons (pe_tup (pa_cons pe_int (pa_cons pe_int pa_nil))) pa_nil)))))
          (pe_call G30 hr1 (by rfl) T.d30.g T.d30.F.kp T.d30.b .nil pass0 (pa_cons (pv 0) (pa_cons pe_int pa_nil))) (fun _ _ => rfl))
          (tgK K rfl (pgs_cons (pg_name (i := 1) sc33.nd rfl (.inl rfl)) (pgs_cons (pg_name (i := 2) sc33.nd rfl (.inl rfl)) pgs_nil))))
      (pss_cons (ps_set (i := 3) sc33.nd rfl (.inr rfl) (pe_op op_add (pv 1) (pv 2)))
      (pss_cons (ps_set (i := 4) sc33.nd rfl (.inl rfl) (pe_op op_add pe_int (pe_call G30 hr1 (by rfl) T.d30.g T.d30.F.kp T.d30.b .nil pass0 (pa_cons (pv 0) (pa_cons
          (pe_ix (ixlK K) (pe_lst (pa_cons pe_int (pa_cons (pe_op op_pow pe_int pe_int) pa_nil))) (pe_call G30 hr1 (by rfl) T.d30.g T.d30.F.kp T.d30.b .nil pass0 (pa_cons (pv 0) (pa_cons pe_int pa_nil))) (fun _ _ => rfl)) pa_nil)))))
      (pss_cons (ps_setLc (i := 7) (own := [("one", 5)]) (g := gName 5) (by rfl) sc33.nd rfl rfl (sw_true rfl rfl rfl (by decide +kernel)) (pi_range1 rfl T.range (pa_cons (pv 3) pa_nil)) (blkOk_by (own := [("one", 5)]) (N := N33) (sc := defScope (top 33)) (by decide +kernel))
          (fun _ _ _ _ _ => pg_name (i := 5) sc33.nd rfl (Or.inl rfl)) (fun _ _ _ _ _ => pts_nil) (fun _ _ _ _ _ =>
            pe_lc (own := [("other", 6)]) (g := gName 6) (by rfl) sc33.nd (pi_range1 (by rfl) T.range (pa_cons (pv 3) pa_nil)) (blkOk_by (own := [("other", 6)]) (N := N33) (sc := relS bk33 (defScope (top 33))) (by decide +kernel))
              (fun _ _ _ _ _ => pg_name (i := 6) sc33.nd rfl (Or.inl rfl)) (fun _ _ _ _ _ => pts_nil) (fun _ _ _ _ _ => pe_int)))
      (pss_cons (ps_for PassesOwn.never rfl (pi_range1 rfl T.range (pa_cons (pv 3) pa_nil)) (pg_name (i := 5) sc33.nd rfl (Or.inl rfl))
        (pss_one (ps_for PassesOwn.never rfl (pi_range1 rfl T.range (pa_cons (pv 3) pa_nil)) (pg_name (i := 6) sc33.nd rfl (Or.inl rfl))
          (pss_one (ps_if (pt_cmpR op_ne (pv 5) (pv 6) (nomark _))
            (pss_one (ps_asg (pe_op op_mulW (pv 4) (pe_ix (ixlK K) (pe_lst (pa_cons pe_int (pa_cons pe_int pa_nil))) (pe_callTy call_int1 (by rfl) T.int boot_int (pa_cons (pe_cmpR op_eq (pe_cmpR op_lt (pv 5) (pv 1) (nomark _)) (pe_cmpR op_lt (pv 6) (pv 1) (nomark _)) (nomark _)) pa_nil)) (fun _ _ => rfl)))
              (pg_sub (pe_ix (ixlK K) (pv 7) (pv 5) (fun _ _ => rfl)) (pv 6) set_list)))
            pss_nil)))))
      (pss_cons (ps_set (i := 8) sc33.nd rfl (.inl rfl) (pe_listRg (by rfl) (by rfl) T.list (prg_1 (by rfl) T.range (pv 3))))
      (pss_cons (ps_set (i := 9) sc33.nd rfl (.inl rfl) (pe_lst pa_nil))
      (pss_cons (ps_for PassesOwn.never rfl (pi_range1 rfl T.range (pa_cons (pv 3) pa_nil)) (pg_name (i := 10) sc33.nd rfl (Or.inl rfl))
        (pss_one (ps_expr (pe_bm PySem.F.plainAttrs_list PySem.F.slot_list_append PySem.F.type_list_append mt_append (pv 9) (pa_cons
          (pe_bm PySem.F.plainAttrs_list PySem.F.slot_list_pop PySem.F.type_list_pop mt_popAt (pv 8) (pa_cons (pe_call G30 hr1 (by rfl) T.d30.g T.d30.F.kp T.d30.b .nil pass0 (pa_cons (pv 0) (pa_cons (pe_callB call_len_seq (by rfl) T.len PySem.boot_len (pa_cons (pv 8) pa_nil)) pa_nil))) pa_nil)) pa_nil)))))
      (pss_one (ps_ret (pe_call G13 hr1 (by rfl) T.d13.g T.d13.F.kp T.d13.b .nil pass0 (pa_cons (pe_call G32 hr (by rfl) T.d32.g T.d32.F.kp T.d32.b .nil pass0 (pa_cons (pv 7) (pa_cons (pe_op op_add pe_int (pe_call G30 hr1 (by rfl) T.d30.g T.d30.F.kp T.d30.b .nil pass0 (pa_cons (pv 0) (pa_cons pe_int pa_nil)))) pa_nil)))
          (pa_cons (pv 9) pa_nil)))))))))))), ?_⟩
    -- few, more
    refine ⟨by show 2 ≤ sizeLine; decide, fun p1 n1 => ⟨by show 2 ≤ sizeLine; decide, fun p2 n2 => ⟨by show 2 ≤ sizeLine; decide, fun p3 n3 => ⟨by show 2 ≤ sizeLine; decide, fun p4 n4 => ⟨by show 4 ≤ sizeLine; decide, fun p5 n5 => ?_⟩⟩⟩⟩⟩
    have T5 := same_new (o := .lst [.ref p1, .ref p2, .ref p3, .ref p4]) n5
    have S5 := (same_new n1).trans ((same_new n2).trans ((same_new n3).trans ((same_new n4).trans T5)))
    have e1 := ((same_new n2).trans ((same_new n3).trans ((same_new n4).trans T5))) p1 _ upd_same
    have e2 := ((same_new n3).trans ((same_new n4).trans T5)) p2 _ upd_same
    have e3 := ((same_new n4).trans T5) p3 _ upd_same
    have e4 := T5 p4 _ upd_same
    clear T5
    have e5 : (upd (upd (upd (upd (upd H p1 (.tup [.int 2, .int 3])) p2 (.tup [.int 2, .int 4])) p3 (.tup [.int 2, .int 5])) p4 (.tup [.int 3, .int 3])) p5 (.lst [.ref p1, .ref p2, .ref p3, .ref p4])) p5 = some (.lst [.ref p1, .ref p2, .ref p3, .ref p4]) := upd_same
    generalize upd (upd (upd (upd (upd H p1 (.tup [.int 2, .int 3])) p2 (.tup [.int 2, .int 4])) p3 (.tup [.int 2, .int 5])) p4 (.tup [.int 3, .int 3])) p5 (.lst [.ref p1, .ref p2, .ref p3, .ref p4]) = H5 at S5 e1 e2 e3 e4 e5
    have D5 : DeckS H a H5 := (DeckS.refl hd0).same S5
    refine ⟨_, rfl, a, d, 4, rfl, S5 _ _ hd0, by decide, by decide, fun r d1 r0 r1 => ?_⟩
    have ne : ∀ {p o}, H5 p = some o → (∀ d : Int, o ≠ .lst [.int d]) → p ≠ a := fun {p o} h1 h2 e => by
      rw [e, S5 _ _ hd0] at h1
      cases h1
      exact h2 d rfl
    obtain ⟨t, few, more, hat, hSt, hf1, hf2, hf3, hf4⟩ : ∃ (t : Addr) (few more : Nat), atI [V.ref p1, V.ref p2, V.ref p3, V.ref p4] r = some (.ref t) ∧ (upd H5 a (.lst [.int d1])) t = some (.tup [.int (few : Int), .int (more : Int)]) ∧ 2 ≤ few ∧ 2 ≤ more ∧ 5 ≤ few + more ∧ few + more ≤ 7 := by
      have hr4 : r = 0 ∨ r = 1 ∨ r = 2 ∨ r = 3 := by omega
      rcases hr4 with rfl | rfl | rfl | rfl
      · exact ⟨p1, 2, 3, rfl, by rw [upd_ne (ne e1 fun d h => nomatch h)]; exact e1, by omega, by omega, by omega, by omega⟩
      · exact ⟨p2, 2, 4, rfl, by rw [upd_ne (ne e2 fun d h => nomatch h)]; exact e2, by omega, by omega, by omega, by omega⟩
      · exact ⟨p3, 2, 5, rfl, by rw [upd_ne (ne e3 fun d h => nomatch h)]; exact e3, by omega, by omega, by omega, by omega⟩
      · exact ⟨p4, 3, 3, rfl, by rw [upd_ne (ne e4 fun d h => nomatch h)]; exact e4, by omega, by omega, by omega, by omega⟩
    refine ⟨p5, _, r, _, rfl, rfl, .of (by rw [upd_ne (ne e5 fun d h => by cases h)]; exact e5), hat, ?_⟩
    refine ⟨t, _, rfl, .of hSt, rfl, _, _, rfl, _, [], rfl, rfl, ?_⟩
    have D6 : DeckS H a (upd H5 a (.lst [.int d1])) := D5.take
    have e6 : (upd H5 a (.lst [.int d1])) a = some (.lst [.int d1]) := upd_same
    generalize upd H5 a (.lst [.int d1]) = H6 at D6 e6
    clear hSt hat e1 e2 e3 e4 e5 ne n1 n2 n3 n4 n5 S5 D5 r0 r1
    -- n, far
    refine ⟨_, rfl, _, rfl, _, _, rfl, rfl, ?_⟩
    show gName 3 (V.int ((few + more : Nat) : Int)) _ _ _
    have hf5 : few + 2 ≤ few + more := by omega
    generalize few + more = n at hf3 hf4 hf5
    refine ⟨_, rfl, 10, 20, rfl, rfl, by unfold CPow; decide, by show 2 ≤ sizeLine; decide, fun p6 n6 => ?_⟩
    have S7 := same_new (o := .lst [.int 3, .int ((10 : Int) ^ (20 : Int).toNat)]) n6
    have e7 : (upd H6 p6 (.lst [.int 3, .int ((10 : Int) ^ (20 : Int).toNat)])) p6 = some (.lst [.int 3, .int ((10 : Int) ^ (20 : Int).toNat)]) := upd_same
    have n6a : p6 ≠ a := D6.ne n6
    refine ⟨_, rfl, a, d1, 2, rfl, S7 _ _ e6, by decide, by decide, fun r2 d2 r20 r21 => ?_⟩
    obtain ⟨m, hat2, hm0, hm1⟩ : ∃ m : Int, atI [V.int 3, V.int ((10 : Int) ^ (20 : Int).toNat)] r2 = some (.int m) ∧ 0 < m ∧ m ≤ 10 ^ 20 := by
      have hr2 : r2 = 0 ∨ r2 = 1 := by omega
      rcases hr2 with rfl | rfl
      · exact ⟨3, rfl, by omega, by decide⟩
      · exact ⟨_, rfl, by decide, by decide⟩
    refine ⟨p6, _, r2, _, rfl, rfl, .of (by rw [upd_ne n6a]; exact e7), hat2, ?_⟩
    have D7 : DeckS H a (upd H6 p6 (.lst [.int 3, .int ((10 : Int) ^ (20 : Int).toNat)])) := D6.new n6
    have D8 : DeckS H a (upd (upd H6 p6 (.lst [.int 3, .int ((10 : Int) ^ (20 : Int).toNat)])) a (.lst [.int d2])) := D7.take
    have e8 : (upd (upd H6 p6 (.lst [.int 3, .int ((10 : Int) ^ (20 : Int).toNat)])) a (.lst [.int d2])) a = some (.lst [.int d2]) := upd_same
    generalize upd (upd H6 p6 (.lst [.int 3, .int ((10 : Int) ^ (20 : Int).toNat)])) a (.lst [.int d2]) = H8 at D8 e8
    have hmS : Sm 8000 m := sm_up (a := 80) (by decide) (sm_of (by omega) (Int.lt_of_le_of_lt hm1 (by decide)))
    refine ⟨a, d2, m, rfl, e8, hm0, hmS, fun r3 d3 r30 r31 => ?_⟩
    have D9 : DeckS H a (upd H8 a (.lst [.int d3])) := D8.take
    have e9 : (upd H8 a (.lst [.int d3])) a = some (.lst [.int d3]) := upd_same
    generalize upd H8 a (.lst [.int d3]) = H9 at D9 e9
    clear D6 D7 D8 e6 e7 e8 S7 n6 n6a hat2 H6 H8
    refine ⟨1, r3, rfl, rfl, ?_⟩
    show gName 4 (V.int (1 + r3)) _ _ _
    have hfar1 : 1 ≤ 1 + r3 := by omega
    have hfar2 : 1 + r3 ≤ 10 ^ 20 := by omega
    generalize 1 + r3 = far at hfar1 hfar2
    -- rows
    refine ⟨_, rfl, n, rfl, by omega, by omega, fun D1 nD1 => ?_⟩
    have nDa : D1 ≠ a := D9.ne nD1
    have big : (9000 : Nat) < sizeLine := by decide
    refine lc_itY walk_range (fun i H' => Same H9 H' ∧ ∃ rs : List Addr, H' D1 = some (.lst (rs.map V.ref)) ∧ rs.length = i ∧ rs.Nodup ∧ D1 ∉ rs ∧ (∀ r ∈ rs, H9 r = none) ∧ ∀ r ∈ rs, H' r = some (.lst ((List.range n).map fun _ => V.int 0)))
      ⟨same_new nD1, [], upd_same, rfl, List.nodup_nil, by simp, by simp, by simp⟩ (fun _ _ _ _ => trivial) (fun i x H1 H2 hi h hy => ?_) (fun H1 h => ?_)
    · obtain ⟨rfl, rfl⟩ := yrange0 hy
      obtain ⟨sm, rs, h1, h2, h3, h4, h5, h6⟩ := h
      refine ⟨rfl, ?_⟩
      refine ⟨_, rfl, n, rfl, by omega, by omega, fun D2 nD2 => ?_⟩
      refine lc_all walk_range (l := []) mono_int (fun _ => 0) nD2 Live.nil (by show n ≤ sizeLine; omega) (fun _ _ => trivial)
        (fun j y H3 H4 Put hj sm3 lv3 hy3 hput => ?_) (fun H3 sm3 hM => ?_)
      · obtain ⟨rfl, rfl⟩ := yrange0 hy3
        exact ⟨rfl, hput _ _ (Same.refl _) rfl⟩
      · obtain ⟨_, acc, ha, hp⟩ := hM
        have eacc : acc = (List.range n).map fun _ => V.int 0 := by
          have e := paired_int hp
          rw [List.map_map] at e
          exact e
        subst eacc
        have hD12 : D1 ≠ D2 := fun e => by rw [e, nD2] at h1; cases h1
        have hi' : i < n := hi
        refine ⟨_, sm3 _ _ h1, by rw [List.length_map]; omega, same_write (sm.trans sm3) nD1, rs ++ [D2], ?_, by simp [h2], ?_, ?_, ?_, ?_⟩
        · rw [upd_same, List.map_append]
          rfl
        · refine List.nodup_append.mpr ⟨h3, by simp, fun a ha' b hb e => ?_⟩
          have eb : b = D2 := by simpa using hb
          have h7 := h6 a ha'
          rw [e, eb, nD2] at h7
          cases h7
        · intro z
          rcases List.mem_append.mp z with z | z
          · exact h4 z
          · exact hD12 (by simpa using z)
        · intro r hr
          rcases List.mem_append.mp hr with z | z
          · exact h5 r z
          · have e : r = D2 := by simpa using z
            rw [e]
            exact sm.free nD2
        · intro r hr
          rcases List.mem_append.mp hr with z | z
          · have nr : r ≠ D1 := fun e => h4 (e ▸ z)
            rw [upd_ne nr]
            exact sm3 _ _ (h6 r z)
          · have e : r = D2 := by simpa using z
            rw [e, upd_ne (Ne.symm hD12)]
            exact ha
    · obtain ⟨sm, rs, h1, h2, h3, h4, h5, h6⟩ := h
      have G0 : GridI H1 D1 n rs (midI (rowK far few) 0 0) := by
        refine ⟨h1, h2, h3, h4, fun i r hr => ?_⟩
        rw [h6 r (List.mem_of_getElem? hr)]
        congr 2
        refine List.map_congr_left fun j _ => ?_
        show V.int 0 = V.int (if i < 0 ∨ (i = 0 ∧ j < 0) then rowK far few i j else 0)
        rw [if_neg (by omega)]
      have D10 := D9.same sm
      have nrH : ∀ r ∈ rs, H r = none := fun r hr => D9.free (h5 r hr)
      have nra : ∀ r ∈ rs, r ≠ a := fun r hr => D9.ne (h5 r hr)
      have nDH : H D1 = none := D9.free nD1
      clear h1 h3 h6
      refine ⟨_, rfl, n, rfl, by omega, by omega, ?_⟩
      refine for_range (n := n) (fun i σ H' => ∃ y5 y6, σ = [some (.ref a), some (.int (few : Int)), some (.int (more : Int)), some (.int (n : Int)), some (.int far), y5, y6, some (.ref D1), none, none, none] ∧ DeckS H a H' ∧ GridI H' D1 n rs (midI (rowK far few) i 0))
        ⟨none, none, rfl, D10, G0⟩ (fun i σ H2 hi h => ?_) (fun σ H2 h => ?_)
      · obtain ⟨y5, y6, rfl, D2, G2⟩ := h
        rw [Int.zero_add]
        refine ⟨_, rfl, n, rfl, by omega, by omega, ?_⟩
        refine for_range (n := n) (fun j σ H' => ∃ y6, σ = [some (.ref a), some (.int (few : Int)), some (.int (more : Int)), some (.int (n : Int)), some (.int far), some (.int (i : Int)), y6, some (.ref D1), none, none, none] ∧ DeckS H a H' ∧ GridI H' D1 n rs (midI (rowK far few) i j))
          ⟨y6, rfl, D2, G2⟩ (fun j σ H3 hj h => ?_) (fun σ H3 h => ?_)
        · obtain ⟨y6, rfl, D3, G3⟩ := h
          rw [Int.zero_add]
          refine ⟨_, rfl, _, rfl, rfl, _, rfl, ?_⟩
          by_cases hij : i = j
          · rw [show decide (V.int (i : Int) = V.int (j : Int)) = true from decide_eq_true (by rw [hij])]
            refine iteF ⟨_, rfl, D3, G3.congr fun x y _ _ => ?_⟩
            unfold midI
            by_cases hb : x < i ∨ (x = i ∧ y < j)
            · rw [if_pos hb, if_pos (by omega)]
            · rw [if_neg hb]
              by_cases hxy : x = i ∧ y = j
              · rw [if_pos (by omega)]
                unfold rowK
                rw [if_pos (by omega)]
              · rw [if_neg (by omega)]
          · rw [show decide (V.int (i : Int) = V.int (j : Int)) = false from decide_eq_false fun z => hij (by have := V.int.inj z; omega)]
            refine iteT ?_
            refine ⟨_, rfl, by show 2 ≤ sizeLine; decide, fun p7 n7 => ?_⟩
            have S4 : Same H3 (upd H3 p7 (.lst [.int 1, .int 2])) := same_new n7
            have e7 : (upd H3 p7 (.lst [.int 1, .int 2])) p7 = some (.lst [.int 1, .int 2]) := upd_same
            generalize upd H3 p7 (.lst [.int 1, .int 2]) = H4 at S4 e7
            refine ⟨_, rfl, _, rfl, _, _, rfl, rfl, _, rfl, _, rfl, _, _, rfl, rfl, rfl, .inr ⟨_, rfl, ?_⟩⟩
            have hz : ∃ z : Int, atI [V.int 1, V.int 2] (if decide (V.bl (decide ((i : Int) < (few : Int))) = V.bl (decide ((j : Int) < (few : Int)))) then 1 else 0) = some (.int z) ∧ rowK far few i j = far * z ∧ 0 ≤ z ∧ z < 4 := by
              unfold rowK
              rw [if_neg hij]
              have c1 : decide ((i : Int) < (few : Int)) = decide (i < few) := decide_eq_decide.mpr (by omega)
              have c2 : decide ((j : Int) < (few : Int)) = decide (j < few) := decide_eq_decide.mpr (by omega)
              rw [c1, c2]
              by_cases hs : decide (i < few) = decide (j < few)
              · refine ⟨2, ?_, by rw [if_pos hs], by omega, by omega⟩
                rw [if_pos (decide_eq_true (by rw [hs]))]
                rfl
              · refine ⟨1, ?_, by rw [if_neg hs], by omega, by omega⟩
                rw [if_neg (by simpa using hs)]
                rfl
            obtain ⟨z, hz1, hz2, hz3, hz4⟩ := hz
            refine ⟨p7, _, _, _, rfl, rfl, .of e7, hz1, far, z, rfl, rfl, wide_mul (a := 80) (b := 3) (sm_of (by omega) (Int.lt_of_le_of_lt hfar2 (by decide))) (sm_of hz3 (by omega)) (by decide) (by decide) (by decide), ?_⟩
            have G4 := G3.same S4
            have D4 := D3.same S4
            obtain ⟨f1, f2, f3, f4, f5⟩ := id G4
            have hri : rs[i]? = some (rs[i]'(by omega)) := List.getElem?_eq_getElem (by omega)
            have hri' : (rs.map V.ref)[i]? = some (.ref (rs[i]'(by omega))) := by rw [List.getElem?_map, hri]; rfl
            have hmem : rs[i]'(by omega) ∈ rs := List.getElem_mem _
            refine ⟨_, rfl, _, rfl, D1, _, i, _, rfl, rfl, .of f1, atI_nat hri', _, rfl, _, _, j, j, rfl, rfl, f5 i _ hri, ?_, ?_⟩
            · unfold ixN
              rw [if_pos (by omega), if_pos (by simp; exact hj)]
              rfl
            · refine ⟨_, rfl, D4.put (nra _ hmem) (nrH _ hmem), (G4.put hri hj).congr fun x y _ _ => ?_⟩
              by_cases hxy : x = i ∧ y = j
              · obtain ⟨rfl, rfl⟩ := hxy
                rw [if_pos ⟨rfl, rfl⟩]
                unfold midI
                rw [if_pos (by omega), hz2]
              · rw [if_neg hxy]
                unfold midI
                by_cases hb : x < i ∨ (x = i ∧ y < j)
                · rw [if_pos hb, if_pos (by omega)]
                · rw [if_neg hb, if_neg (by omega)]
        · obtain ⟨y6, rfl, D3, G3⟩ := h
          refine ⟨_, _, rfl, D3, G3.congr fun x y hx hy => ?_⟩
          unfold midI
          by_cases hb : x < i ∨ (x = i ∧ y < n)
          · rw [if_pos hb, if_pos (by omega)]
          · rw [if_neg hb, if_neg (by omega)]
      · obtain ⟨y5, y6, rfl, D2, G2⟩ := h
        have G2 : GridI H2 D1 n rs (rowK far few) := G2.congr fun x y hx hy => by unfold midI; rw [if_pos (by omega)]
        -- left, order
        refine ⟨_, rfl, _, rfl, RgOk.of_le (by omega) (by omega) (by omega) (by omega), fun pl npl => ?_⟩
        have S3 : Same H2 (upd H2 pl (.lst (rgV 0 (n : Int)))) := same_new npl
        have el : (upd H2 pl (.lst (rgV 0 (n : Int)))) pl = some (.lst (natsV (List.range n))) := by
          rw [upd_same]
          unfold rgV natsV
          have e : ((n : Int) - 0).toNat = n := by omega
          rw [e]
          congr 2
          refine List.map_congr_left fun x _ => ?_
          rw [Int.zero_add]
        have pla : pl ≠ a := D2.ne npl
        have plH : H pl = none := D2.free npl
        have plD : pl ≠ D1 := fun e => by rw [e, G2.1] at npl; cases npl
        have plr : pl ∉ rs := fun hm => by
          obtain ⟨i, hi, e⟩ := List.mem_iff_getElem.mp hm
          have := G2.2.2.2.2 i pl (by rw [List.getElem?_eq_getElem hi, e])
          rw [npl] at this
          cases this
        have D3 := D2.same S3
        have G3 := G2.same S3
        generalize upd H2 pl (.lst (rgV 0 (n : Int))) = H3 at el D3 G3
        refine ⟨Nat.zero_le _, fun po npo => ?_⟩
        have S4 : Same H3 (upd H3 po (.lst [])) := same_new npo
        have eo : (upd H3 po (.lst [])) po = some (.lst []) := upd_same
        have poa : po ≠ a := D3.ne npo
        have poH : H po = none := D3.free npo
        have poD : po ≠ D1 := fun e => by rw [e, G3.1] at npo; cases npo
        have por : po ∉ rs := fun hm => by
          obtain ⟨i, hi, e⟩ := List.mem_iff_getElem.mp hm
          have := G3.2.2.2.2 i po (by rw [List.getElem?_eq_getElem hi, e])
          rw [npo] at this
          cases this
        have pol : po ≠ pl := fun e => by rw [e, el] at npo; cases npo
        have D4 := D3.same S4
        have G4 := G3.same S4
        have el4 := S4 _ _ el
        generalize upd H3 po (.lst []) = H4 at el4 D4 G4 eo
        clear el S3 S4 D3 G3 npo npl D2 G2
        refine ⟨_, rfl, n, rfl, by omega, by omega, ?_⟩
        refine for_range (n := n) (fun k σ H' => ∃ y10 L O, σ = [some (.ref a), some (.int (few : Int)), some (.int (more : Int)), some (.int (n : Int)), some (.int far), y5, y6, some (.ref D1), some (.ref pl), some (.ref po), y10] ∧ DeckS H a H' ∧ GridI H' D1 n rs (rowK far few) ∧
            H' pl = some (.lst (natsV L)) ∧ H' po = some (.lst (natsV O)) ∧ L.length + k = n ∧ (O ++ L).Perm (List.range n))
          ⟨none, List.range n, [], rfl, D4, G4, el4, eo, by rw [List.length_range]; omega, List.Perm.refl _⟩ (fun k σ H5 hk h => ?_) (fun σ H5 h => ?_)
        · obtain ⟨y10, L, O, rfl, D5, G5, hL, hO, hLk, hperm⟩ := h
          obtain ⟨d5, hd5⟩ := D5.2
          refine ⟨_, rfl, .inl ⟨rfl, _, .of hO⟩, _, rfl, .inl ⟨rfl, _, .of hL⟩, _, rfl, _, rfl, pl, _, rfl, .inl (.of hL), ?_⟩
          rw [List.length_map]
          refine ⟨a, d5, (L.length : Int), rfl, hd5, by omega, sm_up (a := 10) (by decide) (by show _ < 2 ^ 10; omega), fun r d6 hr0 hr1 => ?_⟩
          have D6 : DeckS H a (upd H5 a (.lst [.int d6])) := D5.take
          have G6 : GridI (upd H5 a (.lst [.int d6])) D1 n rs (rowK far few) := G5.upd (Ne.symm nDa) (fun hm => nra a hm rfl)
          have hL6 : (upd H5 a (.lst [.int d6])) pl = some (.lst (natsV L)) := by rw [upd_ne pla]; exact hL
          have hO6 : (upd H5 a (.lst [.int d6])) po = some (.lst (natsV O)) := by rw [upd_ne poa]; exact hO
          generalize upd H5 a (.lst [.int d6]) = H6 at D6 G6 hL6 hO6
          obtain ⟨z, rfl⟩ : ∃ z : Nat, r = (z : Int) := ⟨r.toNat, by omega⟩
          have hz : z < L.length := by omega
          have hsq : seqIndex? (z : Int) (natsV L).length = some z := by
            refine (ixN_seq (j := z) ?_).1
            unfold ixN
            rw [List.length_map, if_pos (by omega), if_pos (by omega)]
            rfl
          refine ⟨pl, natsV L, (z : Int), z, _, rfl, rfl, hL6, by omega, by omega, hsq, natsV_get hz, ?_⟩
          have D7 : DeckS H a (upd H6 pl (.lst ((natsV L).eraseIdx z))) := D6.put pla plH
          have G7 : GridI (upd H6 pl (.lst ((natsV L).eraseIdx z))) D1 n rs (rowK far few) := G6.upd plD plr
          have hL7 : (upd H6 pl (.lst ((natsV L).eraseIdx z))) pl = some (.lst (natsV (L.eraseIdx z))) := by
            rw [upd_same]
            congr 2
            exact erase_map _ L z
          have hO7 : (upd H6 pl (.lst ((natsV L).eraseIdx z))) po = some (.lst (natsV O)) := by rw [upd_ne pol]; exact hO6
          generalize upd H6 pl (.lst ((natsV L).eraseIdx z)) = H7 at D7 G7 hL7 hO7
          have hplen := hperm.length_eq
          rw [List.length_append, List.length_range] at hplen
          refine ⟨po, _, _, rfl, rfl, hO7, by rw [List.length_map]; omega, ?_⟩
          refine ⟨_, L.eraseIdx z, O ++ [L.getD z 0], rfl, D7.put poa poH, G7.upd poD por, by rw [upd_ne (Ne.symm pol)]; exact hL7, by rw [upd_same]; unfold natsV; rw [List.map_append]; rfl, by rw [List.length_eraseIdx_of_lt hz]; omega, ?_⟩
          have hmem : L.getD z 0 = L[z] := by
            rw [List.getD_eq_getElem?_getD, List.getElem?_eq_getElem hz]
            rfl
          rw [hmem, List.append_assoc]
          refine List.Perm.trans (List.Perm.append_left O ?_) hperm
          exact perm_erase L z hz
        · obtain ⟨y10, L, O, rfl, D5, G5, hL, hO, hLk, hperm⟩ := h
          have eL : L = [] := List.length_eq_zero_iff.mp (by omega)
          subst eL
          rw [List.append_nil] at hperm
          obtain ⟨d5, hd5⟩ := D5.2
          refine ⟨_, rfl, _, rfl, a, d5, 9, rfl, hd5, by decide, by decide, fun r d6 hr0 hr1 => ?_⟩
          have D6 : DeckS H a (upd H5 a (.lst [.int d6])) := D5.take
          have G6 : GridI (upd H5 a (.lst [.int d6])) D1 n rs (rowK far few) := G5.upd (Ne.symm nDa) (fun hm => nra a hm rfl)
          have hO6 : (upd H5 a (.lst [.int d6])) po = some (.lst (natsV O)) := by rw [upd_ne poa]; exact hO
          generalize upd H5 a (.lst [.int d6]) = H6 at D6 G6 hO6
          refine ⟨1, r, rfl, rfl, ?_⟩
          refine ⟨[a], _, n, 1 + r, rowK far few, rfl, D6.live, G6.rows (by simpa using nDa) (fun x hx => by simpa using nra x hx), by omega, sm_up (a := 10) (by decide) (by show _ < 2 ^ 10; omega), by omega, fun tv H7 sm7 htv => ?_⟩
          have hlO := hperm.length_eq
          rw [List.length_range] at hlO
          have hndO : O.Nodup := hperm.nodup_iff.mpr List.nodup_range
          have hltO : ∀ x ∈ O, x < n := fun x hx => List.mem_range.mp (hperm.mem_iff.mp hx)
          refine ⟨_, rfl, [a], tv, _, n, 1 + r, rowK far few, O, rfl, (D6.same sm7).live, htv, ⟨po, natsV O, rfl, by rw [hid_out (by simpa using poa)]; exact sm7 _ _ hO6, nat_paired O⟩, hndO, fun e => by rw [e] at hlO; simp at hlO; omega, hltO, by omega, by omega, fun rv H8 sm8 hrv => ?_⟩
          rw [hlO, tabF_congr (B := sidedM far fun i => decide (O.getD i 0 < few)) fun i j hi hj => rowK_sided hperm hi hj] at hrv
          exact q rv H8 n (1 + r) far _ ((D6.same sm7).same sm8) ⟨shape_of hperm hf1 hf5 hf3 hf4, hfar1, hfar2, by omega, by omega⟩ hrv
end
end K57
end

section
set_option Elab.async false
set_option linter.all false
set_option maxRecDepth 100000
set_option maxHeartbeats 4000000
set_option exponentiation.threshold 10000
namespace K57
open PySem PySem.Spec PyProof.Rows L2
section
variable {P : Program} {w : World} {K : PySem.W.Frag} {mg : Str → Option Value} {base : Heap} {ad : Nat → Addr} {fd : Nat → FuncData}
/-! ### _law_is_bare -/
theorem enc_tab : Enc K (TabV K) (fun T => PyData.list (T.map fun r => PyData.list (r.map frD))) 3 := enc_ls (enc_ls enc_fr)
theorem enc_cut : Enc K (CutV K) eCut 1 := enc_ls enc_nat
theorem enc_cuts : Enc K (CutsV K) (fun l => PyData.list (l.map fun p => PyData.tuple [eCut p.1, frD p.2])) 3 := enc_ls (enc_pr enc_cut enc_fr)
theorem splits_nil {n : Nat} {A : Mx} (h : cutsUp A (n - 1) = []) : splitsT n A = [] := by
  unfold splitsT
  rw [h]
  simp
def spIsBare (K : PySem.W.Frag) : Sp := fun vs H Q _ => ∃ (v : V) (n : Nat) (D : Int) (A : Mx), vs = [v] ∧ TabV K H v (tabF n D A) ∧ TabS n D A ∧ TabS n (2 * D) (fun i j => 2 * A i j) ∧ 1 ≤ n ∧ n ≤ 12 ∧ Long n A ∧
  cutsUp A (n - 1) = [] ∧ ∀ H', Same H H' → Q (.bl true) H'
theorem sc34 : FnScope ["table"] ["table"] (defScope (top 34)) := ⟨rfl, rfl, rfl, by decide +kernel, rfl, by decide +kernel, by decide +kernel⟩
theorem ok34 (T : Txt K mg ad fd) : FnOk P w K mg base CX0 8 (ad 34) (fd 34) ["table"] (spIsBare K) := by
  have G25 : FnOk P w K mg base CX0 6 (ad 25) (fd 25) ["table"] (spSplits K) := ok25 T
  have G26 : FnOk P w K mg base CX0 7 (ad 26) (fd 26) ["table"] (spRest K) := ok26 T
  refine T.d34.F.ok sc34 (fun vs H Q E h => ?_) (fun cdv A outer s H vs Q E hr h => ?_)
  · obtain ⟨v, n, D, A, rfl, _⟩ := h
    rfl
  · obtain ⟨v, n, D, M, rfl, ht, hs, hs2, h1, h12, hlong, hno, q⟩ := h
    have hr6 : Room 6 _ := hr.mono (by decide)
    refine ⟨_, pss_one (ps_ret (pe_and (pe_cmpR (eqK K hr.units) (pe_call G25 hr6 (by rfl) T.d25.g T.d25.F.kp T.d25.b .nil pass0 (pa_cons (pv 0) pa_nil)) (pe_lst pa_nil) (nomark _))
      (pe_one (pe_cmpR (eqK K hr.units) (pe_call G26 hr (by rfl) T.d26.g T.d26.F.kp T.d26.b .nil pass0 (pa_cons (pv 0) pa_nil)) (pv 0) (nomark _))))), ?_⟩
    have ht0 : TabV K (hid [] H) v (tabF n D M) := by rw [hid_nil]; exact ht
    refine ⟨_, rfl, [], v, n, D, M, rfl, Live.nil, ht0, hs, h1, h12, hlong, fun r H1 sm1 hrc => ?_⟩
    rw [hid_nil, splits_nil hno] at hrc
    refine ⟨Nat.zero_le _, fun p np => ?_⟩
    have s2 : Same H1 (upd H1 p (.lst [])) := same_new np
    refine Enc.eq (enc_cuts (K := K)) (by decide) (mono_cutsK K _ _ _ _ s2 hrc) (ls_nil upd_same) ⟨_, rfl, ?_⟩
    rw [show decide (frC (2 * D) [] = []) = true from decide_eq_true rfl]
    refine iteT ?_
    have s3 := sm1.trans s2
    refine ⟨_, rfl, [], v, n, D, M, rfl, Live.nil, mono_tabK K _ _ _ _ (hid_mono s3) ht0, hs, hs2, h1, h12, hlong, by rw [splits_nil hno]; decide, fun rt H3 sm3 hrt => ?_⟩
    rw [hid_nil] at hrt
    have e : tabF n (2 * D) (restM n M) = tabF n D M := by
      rw [tabF_two hs.pos]
      refine tabF_congr fun i j _ _ => ?_
      unfold restM
      rw [splits_nil hno]
      show 2 * M i j - 0 = 2 * M i j
      omega
    rw [e] at hrt
    refine ⟨_, rfl, ?_⟩
    refine Enc.eq (enc_tab (K := K)) (by decide) hrt (mono_tabK K _ _ _ _ (s3.trans sm3) ht) ?_
    rw [decide_eq_true rfl]
    exact q _ (s3.trans sm3)
end
end K57
end

section
set_option Elab.async false
set_option linter.all false
set_option maxRecDepth 100000
set_option maxHeartbeats 4000000
set_option exponentiation.threshold 10000
namespace K57
open PySem PySem.Spec PyProof.Rows L2
/-! ### one sorted list -/
section
variable {K : PySem.W.Frag} {α : Type} [DecidableEq α] {R : Rl α} {e : α → PyData} {d : Nat}
theorem Enc.toks (E : Enc K R e d) {a b : α} (h : PySem.W.keyToks (e a) = PySem.W.keyToks (e b)) : a = b := by
  have t := PySem.W.toks_eqv (e a) (e b) (E.alk a b)
  cases q : PyData.eqv (e a) (e b) with
  | true =>
    rw [E.eqv] at q
    exact of_decide_eq_true q
  | false =>
    have t2 := t.2 q [.inl 0] [.inl 1]
    rw [h, PySem.W.lex_pre, lex_irrefl] at t2
    have : lexLt itemOrd [.inl 0] [.inl 1] = true := by
      rw [lex_diff (O := itemOrd) (by simp)]
      rfl
    rw [this] at t2
    cases t2
theorem Enc.anti (E : Enc K R e d) {a b : α} (h1 : PySem.W.dataLe false e a b = true) (h2 : PySem.W.dataLe false e b a = true) : a = b := by
  have h1 : (!PySem.W.dataLt (e b) (e a)) = true := h1
  have h2 : (!PySem.W.dataLt (e a) (e b)) = true := h2
  rw [Bool.not_eq_true'] at h1 h2
  exact E.toks ((listOrd itemOrd).total _ _ h2 h1)
theorem Enc.sort_perm (E : Enc K R e d) {l m : List α} (h : l.Perm m) : l.mergeSort (PySem.W.dataLe false e) = m.mergeSort (PySem.W.dataLe false e) := by
  have tot : PySem.W.TotalLe (PySem.W.dataLe false e) := PySem.W.sortLe_total _ _ _
  refine List.Perm.eq_of_pairwise (le := fun a b => PySem.W.dataLe false e a b = true) (fun a b _ _ h1 h2 => E.anti h1 h2) (PySem.W.sort_pairwise tot l) (PySem.W.sort_pairwise tot m) ?_
  exact (List.mergeSort_perm _ _).trans (h.trans (List.mergeSort_perm _ _).symm)
end
abbrev eDue (p : List Nat × (Int × Int)) : PyData := PyData.tuple [eCut p.1, frD p.2]
abbrev leD : List Nat × (Int × Int) → List Nat × (Int × Int) → Bool := PySem.W.dataLe false eDue
theorem due_le (h : Int × Int) (s t : List Nat) : leC s t = leD (s, h) (t, h) := by
  show (!PySem.W.dataLt (eCut t) (eCut s)) = (!PySem.W.dataLt (eDue (t, h)) (eDue (s, h)))
  congr 1
  have K : PySem.W.Frag := []
  have E1 := enc_cut (K := K)
  have E2 := enc_fr (K := K)
  show _ = PySem.W.dataLt (.tuple [eCut t, frD h]) (.tuple [eCut s, frD h])
  rw [PySem.W.dataLt_pair (E1.alk t s) (E2.alk h h), E1.eqv, E2.eqv]
  by_cases e : t = s
  · subst e
    rw [decide_eq_true rfl, if_pos rfl, decide_eq_true rfl, if_pos rfl]
    exact lex_irrefl _
  · rw [decide_eq_false e, if_neg Bool.false_ne_true]
theorem sort_due (h : Int × Int) (l : List (List Nat)) : (l.mergeSort leC).map (fun s => (s, h)) = (l.map fun s => (s, h)).mergeSort leD :=
  PySem.W.sort_maps (fun s => (s, h)) fun a _ b _ => due_le h a b
end K57
end

section
set_option Elab.async false
set_option linter.all false
set_option maxRecDepth 100000
set_option maxHeartbeats 4000000
set_option exponentiation.threshold 10000
namespace K57
open PySem PySem.Spec PyProof.Rows L2
/-! ### the splits of an even table -/
/-- what is due -/
def dueL (n : Nat) (f D : Int) : List (List Nat × (Int × Int)) :=
  if n = 2 then [([1], fr f D)] else (trivL n).map fun s => (s, fr f (2 * D))
theorem even_splits {n : Nat} {f D : Int} (hf : 0 < f) (hD : 0 < D) (h2 : 2 ≤ n) (h7 : n ≤ 7) : frC (2 * D) (splitsT n (evenM f)) = (dueL n f D).mergeSort leD := by
  unfold frC splitsT dueL
  by_cases hn : n = 2
  · subst hn
    rw [if_pos rfl, show 2 - 1 = 1 from rfl, (even_two hf).1]
    simp only [List.mergeSort_singleton, List.map_cons, List.map_nil]
    rw [(even_two hf).2, fr_scale hD (by omega)]
  · rw [if_neg hn]
    obtain ⟨e1, e2, _⟩ := even_facts hf (show 3 ≤ n by omega) h7
    have K : PySem.W.Frag := []
    have E := enc_cut (K := K)
    rw [E.sort_perm e1, List.map_map, ← sort_due]
    refine List.map_congr_left fun s hs => ?_
    have hs := (List.mergeSort_perm _ _).mem_iff.mp hs
    show (s, fr (least (evenM f) s (beside s n)) (2 * D)) = (s, fr f (2 * D))
    rw [e2 s hs]
theorem even_rest {n : Nat} {f : Int} (hf : 0 < f) (h2 : 2 ≤ n) (h7 : n ≤ 7) : (∀ i j, i < n → j < n → restM n (evenM f) i j = 0) ∧ totC (splitsT n (evenM f)) ≤ 8 * f := by
  unfold restM splitsT
  by_cases hn : n = 2
  · subst hn
    rw [show 2 - 1 = 1 from rfl, (even_two hf).1]
    simp only [List.mergeSort_singleton, List.map_cons, List.map_nil]
    rw [(even_two hf).2]
    constructor
    · intro i j hi hj
      unfold sumC partC evenM
      have hi' : i = 0 ∨ i = 1 := by omega
      have hj' : j = 0 ∨ j = 1 := by omega
      rcases hi' with rfl | rfl <;> rcases hj' with rfl | rfl <;> simp <;> omega
    · unfold totC
      simp
      omega
  · obtain ⟨e1, e2, e3⟩ := even_facts hf (show 3 ≤ n by omega) h7
    have K : PySem.W.Frag := []
    have E := enc_cut (K := K)
    have p : (((cutsUp (evenM f) (n - 1)).mergeSort leC).map fun s => (s, least (evenM f) s (beside s n))).Perm ((trivL n).map fun s => (s, f)) := by
      have h1 := ((List.mergeSort_perm (cutsUp (evenM f) (n - 1)) leC).trans e1).map fun s => (s, least (evenM f) s (beside s n))
      have h3 : ((trivL n).map fun s => (s, least (evenM f) s (beside s n))) = (trivL n).map fun s => (s, f) := List.map_congr_left fun s hs => by
        show (s, least (evenM f) s (beside s n)) = (s, f)
        rw [e2 s hs]
      rw [h3] at h1
      exact h1
    constructor
    · intro i j hi hj
      rw [sumC_perm p, sum_scale, e3 i j hi hj]
      omega
    · rw [totC_perm p, tot_const]
      have hl : ((trivL n).length : Int) ≤ 8 := by
        have : (trivL n).length = n := by
          unfold trivL upN
          simp
          omega
        omega
      have := Int.mul_le_mul_of_nonneg_left hl (show 0 ≤ f by omega)
      omega
theorem even_long {n : Nat} {f : Int} (hf : 0 < f) : Long n (evenM f) := by
  intro i j k _ _ _ h1 h2 h3
  unfold evenM
  rw [if_neg h1, if_neg h2, if_neg h3]
  omega
theorem tabS_of {n : Nat} {D : Int} {A : Mx} (h0 : 0 < D) (h1 : D < 2 ^ 900) (ha : ∀ i j, i < n → j < n → 0 ≤ A i j ∧ A i j < 2 ^ 900) : TabS n D A ∧ TabS n (2 * D) fun i j => 2 * A i j := by
  have e : (2 : Int) ^ 900 * 2 = 2 ^ 901 := by decide
  have up : ∀ x : Int, 0 ≤ x → x < 2 ^ 900 → Sm 1000 x ∧ Sm 1000 (2 * x) := fun x hx0 hx1 =>
    ⟨sm_up (by decide) (sm_of (a := 900) hx0 hx1), sm_up (a := 901) (by decide) (sm_of (by omega) (by rw [← e]; omega))⟩
  exact ⟨⟨h0, (up D (by omega) h1).1, fun i j hi hj => (up _ (ha i j hi hj).1 (ha i j hi hj).2).1⟩, ⟨by omega, (up D (by omega) h1).2, fun i j hi hj => (up _ (ha i j hi hj).1 (ha i j hi hj).2).2⟩⟩
end K57
end

section
set_option Elab.async false
set_option linter.all false
set_option maxRecDepth 100000
set_option maxHeartbeats 4000000
set_option exponentiation.threshold 10000
namespace K57
open PySem PySem.Spec PyProof.Rows L2
section
variable {P : Program} {w : World} {K : PySem.W.Frag} {mg : Str → Option Value} {base : Heap} {ad : Nat → Addr} {fd : Nat → FuncData}
/-! ### _law_is_even -/
theorem paired_rep {α : Type} {F : V → α → Prop} {x : V} {a : α} (h : F x a) : ∀ n, Paired F (List.replicate n x) ((List.range n).map fun _ => a)
  | 0 => .nil
  | n + 1 => by
    rw [List.range_succ, List.map_append, List.replicate_succ']
    exact paired_append (paired_rep h n) (.cons h .nil)
def spEven (K : PySem.W.Frag) : Sp := fun vs H Q _ => ∃ (v : V) (n : Nat) (f D : Int), vs = [.int (n : Int), v] ∧ FrV K H v (fr f D) ∧ 2 ≤ n ∧ n ≤ 7 ∧ 1 ≤ f ∧ f ≤ 10 ^ 20 ∧ 1 ≤ D ∧ D ≤ 100 ∧ ∀ H', Same H H' → Q (.bl true) H'
abbrev N35 : List Str := ["n", "far", "table", "half", "due", "one", "other", "point"]
abbrev bk35 : Scope := { kind := .function, names := [(".0", .local), ("one", .cell), ("range", .globalImplicit), ("far", .free), ("n", .free)], isGenerator := false, isCoroutine := false }
theorem sc35 : FnScope N35 ["n", "far"] (defScope (top 35)) := ⟨rfl, rfl, rfl, by decide +kernel, rfl, by decide +kernel, by decide +kernel⟩
theorem nought_new {H : Hp} {p : Addr} {l : List Addr} {D : Int} (hD : 0 < D) (h : p ∉ l) (e : H p = some (.tup [.int 0, .int 1])) : FrV K (hid l H) (.ref p) (fr 0 D) := by
  rw [fr_zero hD]
  exact ⟨p, rfl, .of (by rw [hid_out h]; exact e)⟩
theorem ok35 (T : Txt K mg ad fd) : FnOk P w K mg base CX0 8 (ad 35) (fd 35) ["n", "far"] (spEven K) := by
  have G25 : FnOk P w K mg base CX0 6 (ad 25) (fd 25) ["table"] (spSplits K) := ok25 T
  have G26 : FnOk P w K mg base CX0 7 (ad 26) (fd 26) ["table"] (spRest K) := ok26 T
  have G31 : FnOk P w K mg base CX0 1 (ad 31) (fd 31) ["top", "bottom"] (spFraction K) := ok31 T
  refine T.d35.F.ok sc35 (fun vs H Q E h => ?_) (fun cdv A outer s H vs Q E hr h => ?_)
  · obtain ⟨v, n, f, D, rfl, _⟩ := h
    rfl
  · obtain ⟨v, n, f, D, rfl, hv, h2, h7, f0, f1, d0, d1, q⟩ := h
    have hr6 : Room 6 _ := hr.mono (by decide)
    have hr1 : Room 1 _ := hr.mono (by decide)
    refine ⟨_, pss_cons (ps_setLc (i := 2) (own := [("one", 5)]) (g := gName 5) (by rfl) sc35.nd rfl rfl (sw_true rfl rfl rfl (by decide +kernel)) (pi_range1 rfl T.range (pa_cons (pv 0) pa_nil)) (blkOk_by (own := [("one", 5)]) (N := N35) (sc := defScope (top 35)) (by decide +kernel))
          (fun _ _ _ _ _ => pg_name (i := 5) sc35.nd rfl (Or.inr rfl)) (fun _ _ _ _ _ => pts_nil) (fun _ _ _ _ _ =>
            pe_lc (own := [("other", 6)]) (g := gName 6) (by rfl) sc35.nd (pi_range1 (by rfl) T.range (pa_cons (pv 0) pa_nil)) (blkOk_by (own := [("other", 6)]) (N := N35) (sc := relS bk35 (defScope (top 35))) (by decide +kernel))
              (fun _ _ _ _ _ => pg_name (i := 6) sc35.nd rfl (Or.inl rfl)) (fun _ _ _ _ _ => pts_nil)
              (fun _ _ _ _ _ => pe_ix (ixlK K) (pe_lst (pa_cons (pv 1) (pa_cons (pe_tup (pa_cons pe_int (pa_cons pe_int pa_nil))) pa_nil))) (pe_callTy call_int1 (by rfl) T.int boot_int (pa_cons (pe_cmpR op_eq (pv 5) (pv 6) (nomark _)) pa_nil)) (fun _ _ => rfl))))
      (pss_cons (ps_set (i := 3) sc35.nd rfl (.inr rfl) (pe_call G31 hr1 (by rfl) T.d31.g T.d31.F.kp T.d31.b .nil pass0 (pa_cons (pe_ix (ixtK K) (pv 1) pe_int (fun _ _ => rfl)) (pa_cons (pe_op op_mulW pe_int (pe_ix (ixtK K) (pv 1) pe_int (fun _ _ => rfl))) pa_nil))))
      (pss_cons (ps_setLc (i := 4) (own := [("point", 7)]) (g := gName 7) (by rfl) sc35.nd rfl rfl (sw_true rfl rfl rfl (by decide +kernel)) (pi_range2 rfl T.range (pa_cons pe_int (pa_cons (pv 0) pa_nil))) (blkOk_by (own := [("point", 7)]) (N := N35) (sc := defScope (top 35)) (by decide +kernel))
          (fun _ _ _ _ _ => pg_name (i := 7) sc35.nd rfl (Or.inl rfl)) (fun _ _ _ _ _ => pts_nil) (fun _ _ _ _ _ => pe_tup (pa_cons (pe_lst (pa_cons (pv 7) pa_nil)) (pa_cons (pv 3) pa_nil))))
      (pss_cons (ps_if (pt_cmpR op_gt (pv 0) pe_int (nomark _)) (pss_one (ps_expr (pe_bm PySem.F.plainAttrs_list PySem.F.slot_list_append PySem.F.type_list_append mt_append (pv 4) (pa_cons
          (pe_tup (pa_cons (pe_listRg (by rfl) (by rfl) T.list (prg_2 (by rfl) T.range pe_int (pv 0))) (pa_cons (pv 3) pa_nil))) pa_nil)))) pss_nil)
      (pss_cons (ps_if (pt_cmpR op_eq (pv 0) pe_int (nomark _)) (pss_one (ps_set (i := 4) sc35.nd rfl (.inl rfl) (pe_lst (pa_cons (pe_tup (pa_cons (pe_lst (pa_cons pe_int pa_nil)) (pa_cons (pv 1) pa_nil))) pa_nil)))) pss_nil)
      (pss_one (ps_ret (pe_and (pe_cmpR (eqK K hr.units) (pe_call G25 hr6 (by rfl) T.d25.g T.d25.F.kp T.d25.b .nil pass0 (pa_cons (pv 2) pa_nil))
          (pe_callB (cr_sortE (enc_pr (enc_cut (K := K)) (enc_fr (K := K))) (by decide) (fun l => sortable_due l) hr.units) (by rfl) T.sorted PyProof.Rows.boot_sorted (pa_cons (pv 4) pa_nil)) (nomark _))
        (pe_one (pe_cmpR (eqK K hr.units) (pe_call G26 hr (by rfl) T.d26.g T.d26.F.kp T.d26.b .nil pass0 (pa_cons (pv 2) pa_nil))
          (pe_lc (own := [("point", 7)]) (g := gName 7) (by rfl) sc35.nd (pi_range1 (by rfl) T.range (pa_cons (pv 0) pa_nil)) (blkOk_by (own := [("point", 7)]) (N := N35) (sc := defScope (top 35)) (by decide +kernel))
            (fun _ _ _ _ _ => pg_name (i := 7) sc35.nd rfl (Or.inl rfl)) (fun _ _ _ _ _ => pts_nil) (fun _ _ _ _ _ => pe_op op_rep (pe_lst (pa_cons (pe_tup (pa_cons pe_int (pa_cons pe_int pa_nil))) pa_nil)) (pv 0))) (nomark _)))))))))), ?_⟩
    have big : (9000 : Nat) < sizeLine := by decide
    have hD : 0 < D := by omega
    obtain ⟨tf, rfl, htf⟩ := id hv
    -- table
    refine ⟨_, rfl, n, rfl, by omega, by omega, fun D1 nD1 => ?_⟩
    refine lc_all walk_range (l := []) (mono_rowK K) (fun i => (List.range n).map fun j => fr (evenM f i j) D) nD1 Live.nil (by show n ≤ sizeLine; omega) (fun _ _ => trivial) (fun i x H1 H2 Put hi sm1 lv1 hy hput => ?_) (fun H1 sm1 hM => ?_)
    · obtain ⟨rfl, rfl⟩ := yrange0 hy
      refine ⟨rfl, _, rfl, n, rfl, by omega, by omega, fun D2 nD2 => ?_⟩
      refine lc_all walk_range (l := [D1]) (mono_frK K) (fun j => fr (evenM f i j) D) nD2 lv1 (by show n ≤ sizeLine; omega) (fun _ _ => trivial) (fun j y H3 H4 Put5 hj sm3 lv3 hy3 hput5 => ?_) (fun H3 sm3 hM3 => hput _ _ sm3 (hM3.ls (mono_frK K)))
      obtain ⟨rfl, rfl⟩ := yrange0 hy3
      refine ⟨rfl, _, rfl, by show 2 ≤ sizeLine; decide, fun p np => ⟨by show 2 ≤ sizeLine; decide, fun p2 np2 => ?_⟩⟩
      have t1 := same_new (o := .tup [.int 0, .int 1]) np
      have t2 := same_new (o := .lst [.ref tf, .ref p]) np2
      have ep := t2 p _ upd_same
      have ep2 : (upd (upd H4 p (.tup [.int 0, .int 1])) p2 (.lst [.ref tf, .ref p])) p2 = some (.lst [.ref tf, .ref p]) := upd_same
      have t12 := t1.trans t2
      generalize upd (upd H4 p (.tup [.int 0, .int 1])) p2 (.lst [.ref tf, .ref p]) = H5 at t12 ep ep2
      refine ⟨_, rfl, _, rfl, rfl, .inr ⟨_, rfl, ?_⟩⟩
      by_cases hij : i = j
      · rw [show decide (V.int (i : Int) = V.int (j : Int)) = true from decide_eq_true (by rw [hij])]
        refine ⟨p2, _, 1, .ref p, rfl, rfl, .of ep2, rfl, hput5 _ _ t12 ?_⟩
        have e : evenM f i j = 0 := if_pos hij
        rw [e]
        exact nought_new hD (lv3.out np) ep
      · rw [show decide (V.int (i : Int) = V.int (j : Int)) = false from decide_eq_false fun z => hij (by have := V.int.inj z; omega)]
        refine ⟨p2, _, 0, .ref tf, rfl, rfl, .of ep2, rfl, hput5 _ _ t12 ?_⟩
        have e : evenM f i j = f := if_neg hij
        rw [e]
        have sall := sm1.trans (sm3.trans t12)
        have := hid_push2 (l := []) sall nD1 (sm1.free nD2)
        rw [hid_nil] at this
        exact mono_frK K _ _ _ _ this hv
    have htab := hM.ls (K := K) (mono_rowK K)
    rw [hid_nil] at htab
    have htab : TabV K H1 (.ref D1) (tabF n D (evenM f)) := htab
    clear hM
    -- half
    have hfs : Sm 80 f := sm_of (by omega) (Int.lt_of_le_of_lt f1 (by decide))
    have hds : Sm 10 D := by show _ < 2 ^ 10; omega
    have p2 : 0 < (fr f D).2 := fr_pos hD
    have s2 : Sm 10 (fr f D).2 := sm_dvd hD p2 fr_dvd hds
    have htf1 := Same.tup sm1 htf
    refine ⟨_, rfl, tf, _, 0, _, rfl, rfl, htf1, rfl, _, rfl, tf, _, 1, _, rfl, rfl, htf1, rfl, 2, _, rfl, rfl, wide_mul (a := 3) (b := 10) (by decide) s2 (by decide) (by decide) (by decide), ?_⟩
    refine ⟨[], _, _, rfl, Live.nil, by omega, sm_up (a := 13) (by decide) (sm_mulA (a := 3) (by decide) s2), fun hv2 H2 sm2 hhv => ?_⟩
    have eh : fr (fr f D).1 (2 * (fr f D).2) = fr f (2 * D) := by
      refine fr_eq (by omega) (by omega) ?_
      have := fr_cross (a := f) (d := D)
      grind
    rw [hid_nil, eh] at hhv
    -- due
    refine ⟨_, rfl, 1, n, rfl, ⟨by omega, by omega, by omega, by omega⟩, fun D3 nD3 => ?_⟩
    have en : ((n : Int) - 1).toNat = n - 1 := by omega
    refine lc_all walk_range (l := []) (mono_pr (K := K) (mono_cutK K) (mono_frK K)) (fun k => ([k + 1], fr f (2 * D))) nD3 Live.nil (by omega) (fun _ _ => trivial) (fun k x H3 H4 Put hk sm3 lv3 hy hput => ?_) (fun H3 sm3 hM => ?_)
    · obtain ⟨rfl, ex⟩ := yfn hy
      have ex : x = .int ((k + 1 : Nat) : Int) := ex.trans (by show V.int (1 + (k : Int)) = _; rw [show (1 : Int) + (k : Int) = ((k + 1 : Nat) : Int) by omega])
      subst ex
      refine ⟨rfl, _, rfl, by show 1 ≤ sizeLine; decide, fun p np => ⟨_, rfl, by show 2 ≤ sizeLine; decide, fun p' np' => ?_⟩⟩
      have t1 := same_new (o := .lst [.int ((k + 1 : Nat) : Int)]) np
      have t2 := same_new (o := .tup [.ref p, hv2]) np'
      have ep := t2 p _ upd_same
      have hs := hid_push (l := []) (sm3.trans (t1.trans t2)) nD3
      rw [hid_nil] at hs
      refine hput _ _ (t1.trans t2) ⟨p', .ref p, hv2, rfl, .of ?_, ⟨p, _, rfl, ?_, .cons rfl .nil⟩, mono_frK K _ _ _ _ hs hhv⟩
      · rw [hid_out ((lv3.same t1).out np'), upd_same]
      · rw [hid_out (lv3.out np)]
        exact ep
    obtain ⟨_, acc, hacc, hpa⟩ := hM
    rw [en] at hpa
    have s12 := sm1.trans sm2
    have s13 := s12.trans sm3
    have nDH : H2 D3 = none := nD3
    -- what due is, in the end
    have fin : ∀ (H4 : Hp) (pd : Addr), Same H2 H4 → LsV K (PrV K (CutV K) (FrV K)) H4 (.ref pd) (dueL n f D) → tRet (tAndV (tOp (rEqD K) (tCall (spSplits K) [] E0 (tCons (tVar 2) tNil)) (tCB (rSortE K (PrV K (CutV K) (FrV K)) eDue) (tCons (tVar 4) tNil)))
        (tOp (rEqD K) (tCall (spRest K) [] E0 (tCons (tVar 2) tNil)) (tLc (iRng1 (tCons (tVar 0) tNil)) (gName 7) tYes (tOp rRep (tLst (tCons (tTup (tCons (tC (.int 0)) (tCons (tC (.int 1)) tNil))) tNil)) (tVar 0)) [7])))
        { nx := fun _ H' => Q .non H', rt := Q } [some (.int (n : Int)), some (.ref tf), some (.ref D1), some hv2, some (.ref pd), none, none, none] H4 := by
      intro H4 pd s4 hdue
      have hT := tabS_of (n := n) (D := D) (A := evenM f) hD (Int.lt_of_le_of_lt d1 (by decide)) (fun i j _ _ => by
        unfold evenM
        split
        · exact ⟨by omega, by decide⟩
        · exact ⟨by omega, Int.lt_of_le_of_lt f1 (by decide)⟩)
      have htab4 : TabV K (hid [] H4) (.ref D1) (tabF n D (evenM f)) := by
        rw [hid_nil]
        exact mono_tabK K _ _ _ _ (sm2.trans s4) htab
      refine ⟨_, rfl, [], _, n, D, evenM f, rfl, Live.nil, htab4, hT.1, by omega, by omega, even_long (by omega), fun r H5 sm5 hrc => ?_⟩
      rw [hid_nil] at hrc
      refine ⟨_, rfl, pd, dueL n f D, rfl, mono_ls (mono_pr (mono_cutK K) (mono_frK K)) _ _ _ _ sm5 hdue, fun p accS np hpS => ?_⟩
      have t6 := same_new (o := .lst accS) np
      refine Enc.eq (enc_cuts (K := K)) (by decide) (mono_cutsK K _ _ _ _ t6 hrc) ⟨p, accS, rfl, upd_same, hpS.mono fun x y z => mono_pr (mono_cutK K) (mono_frK K) _ _ _ _ t6 z⟩ ⟨_, rfl, ?_⟩
      rw [decide_eq_true (even_splits (by omega) hD h2 h7)]
      refine iteT ?_
      have s56 := sm5.trans t6
      have hrest := even_rest (n := n) (f := f) (by omega) h2 h7
      have htot0 := sum_le (splits_pos (n := n) (A := evenM f)) 0 0
      refine ⟨_, rfl, [], _, n, D, evenM f, rfl, Live.nil, mono_tabK K _ _ _ _ (hid_mono s56) htab4, hT.1, hT.2, by omega, by omega, even_long (by omega), sm_up (a := 90) (by decide) (sm_of (by omega) (Int.lt_of_le_of_lt (show totC (splitsT n (evenM f)) ≤ 8 * 10 ^ 20 by omega) (by decide))), fun rt H7 sm7 hrt => ?_⟩
      rw [hid_nil, tabF_congr (B := fun _ _ => 0) hrest.1] at hrt
      refine ⟨_, rfl, n, rfl, by omega, by omega, fun D8 nD8 => ?_⟩
      refine lc_all walk_range (l := []) (mono_rowK K) (fun i => (List.range n).map fun j => ((0, 1) : Int × Int)) nD8 Live.nil (by show n ≤ sizeLine; omega) (fun _ _ => trivial) (fun i x H9 H10 Put hi sm9 lv9 hy hput => ?_) (fun H9 sm9 hM9 => ?_)
      · obtain ⟨rfl, rfl⟩ := yrange0 hy
        refine ⟨rfl, by show 2 ≤ sizeLine; decide, fun p np => ⟨by show 1 ≤ sizeLine; decide, fun p2 np2 => ?_⟩⟩
        have t1 := same_new (o := .tup [.int 0, .int 1]) np
        have t2 := same_new (o := .lst [.ref p]) np2
        refine ⟨_, rfl, p2, n, [.ref p], rfl, rfl, upd_same, by omega, by omega, by simp; omega, fun p3 np3 => ?_⟩
        have e : (List.replicate ((n : Int)).toNat [V.ref p]).flatten = List.replicate n (.ref p) := by
          show (List.replicate n [V.ref p]).flatten = _
          simp
        rw [e]
        have t3 := same_new (o := .lst (List.replicate n (.ref p))) np3
        have ep := (t2.trans t3) p _ upd_same
        refine hput _ _ (t1.trans (t2.trans t3)) ⟨p3, _, rfl, ?_, paired_rep ⟨p, rfl, .of ?_⟩ n⟩
        · rw [hid_out (((lv9.same t1).same t2).out np3), upd_same]
        · rw [hid_out (lv9.out np)]
          exact ep
      · have hz := hM9.ls (K := K) (mono_rowK K)
        rw [hid_nil] at hz
        refine Enc.eq (enc_tab (K := K)) (by decide) (mono_tabK K _ _ _ _ sm9 hrt) hz ?_
        have e : tabF n (2 * D) (fun _ _ => 0) = (List.range ((n : Int)).toNat).map fun _ => (List.range n).map fun _ => ((0, 1) : Int × Int) := by
          unfold tabF matG
          have e0 : fr 0 (2 * D) = (0, 1) := fr_zero (by omega)
          refine List.map_congr_left fun i _ => List.map_congr_left fun j _ => ?_
          exact e0
        rw [decide_eq_true e]
        exact q _ (s12.trans (s4.trans (s56.trans (sm7.trans sm9))))
    have lacc := hpa.length
    rw [List.length_map, List.length_range] at lacc
    refine ⟨_, rfl, _, _, rfl, rfl, _, rfl, ?_⟩
    by_cases hn2 : n = 2
    · rw [show decide ((2 : Int) < (n : Int)) = false from decide_eq_false (by omega)]
      refine iteF ⟨_, rfl, rfl, _, rfl, ?_⟩
      rw [show decide (V.int (n : Int) = V.int 2) = true from decide_eq_true (by rw [hn2]; rfl)]
      refine iteT ⟨by show 1 ≤ sizeLine; decide, fun p np => ⟨_, rfl, by show 2 ≤ sizeLine; decide, fun p' np' => ⟨by show 1 ≤ sizeLine; decide, fun pd npd => ?_⟩⟩⟩
      have t1 := same_new (o := .lst [.int 1]) np
      have t2 := same_new (o := .tup [.ref p, .ref tf]) np'
      have t3 := same_new (o := .lst [.ref p']) npd
      have ep := (t2.trans t3) p _ upd_same
      have ep' := t3 p' _ upd_same
      have t13 := sm3.trans (t1.trans (t2.trans t3))
      refine fin _ pd t13 ⟨pd, [.ref p'], rfl, upd_same, ?_⟩
      have e : dueL n f D = [([1], fr f D)] := if_pos hn2
      rw [e]
      exact .cons ⟨p', .ref p, .ref tf, rfl, .of ep', ⟨p, [.int 1], rfl, ep, .cons (show NatV _ (V.int 1) 1 from rfl) .nil⟩, mono_frK K _ _ _ _ (s12.trans t13) hv⟩ .nil
    · rw [show decide ((2 : Int) < (n : Int)) = true from decide_eq_true (by omega)]
      refine iteT ?_
      refine ⟨_, rfl, .inl ⟨rfl, _, .of hacc⟩, _, rfl, 1, n, rfl, rfl, RgOk.of_le (by omega) (by omega) (by omega) (by omega), fun pr npr => ?_⟩
      have t1 := same_new (o := .lst (rgV 1 (n : Int))) npr
      have er : rgV 1 (n : Int) = natsV (upN n) := by
        unfold rgV natsV upN
        rw [en, List.map_map]
        refine List.map_congr_left fun k _ => ?_
        show V.int (1 + (k : Int)) = V.int ((k + 1 : Nat) : Int)
        rw [show (1 : Int) + (k : Int) = ((k + 1 : Nat) : Int) by omega]
      refine ⟨_, rfl, by show 2 ≤ sizeLine; decide, fun pt npt => ?_⟩
      have t2 := same_new (o := .tup [.ref pr, hv2]) npt
      have epr := t2 pr _ upd_same
      have ept : (upd (upd H3 pr (.lst (rgV 1 (n : Int)))) pt (.tup [.ref pr, hv2])) pt = some (.tup [.ref pr, hv2]) := upd_same
      have t12 := t1.trans t2
      have nprD : pr ≠ D3 := fun e => by rw [e, hacc] at npr; cases npr
      have nptD : pt ≠ D3 := fun e => by rw [e, t1 _ _ hacc] at npt; cases npt
      generalize upd (upd H3 pr (.lst (rgV 1 (n : Int)))) pt (.tup [.ref pr, hv2]) = H5 at t12 epr ept
      refine ⟨D3, acc, _, rfl, rfl, t12 _ _ hacc, by omega, ?_⟩
      refine ⟨_, rfl, rfl, _, rfl, ?_⟩
      rw [show decide (V.int (n : Int) = V.int 2) = false from decide_eq_false fun z => hn2 (by have := V.int.inj z; omega)]
      refine iteF ?_
      have w5 : Same H2 (upd H5 D3 (.lst (acc ++ [.ref pt]))) := same_write (sm3.trans t12) nDH
      refine fin _ D3 w5 ⟨D3, acc ++ [.ref pt], rfl, upd_same, ?_⟩
      have e : dueL n f D = ((List.range (n - 1)).map fun k => ([k + 1], fr f (2 * D))) ++ [(upN n, fr f (2 * D))] := by
        unfold dueL trivL upN
        rw [if_neg hn2, List.map_append, List.map_map, List.map_map]
        rfl
      rw [e]
      refine paired_append (hpa.mono fun x y z => mono_pr (mono_cutK K) (mono_frK K) _ _ _ _ ?_ z) (.cons ⟨pt, .ref pr, hv2, rfl, .of ?_, ⟨pr, _, rfl, ?_, nat_paired _⟩, mono_frK K _ _ _ _ w5 hhv⟩ .nil)
      · have h1 : Same (hid [D3] H3) (hid [D3] (upd H5 D3 (.lst (acc ++ [.ref pt])))) := by
          rw [hid_write (by simp)]
          exact hid_mono t12
        exact Same.trans h1 hid_sub
      · rw [upd_ne nptD]
        exact ept
      · rw [upd_ne nprD, epr, er]
end
end K57
end

section
set_option Elab.async false
set_option linter.all false
set_option maxRecDepth 100000
set_option maxHeartbeats 4000000
set_option exponentiation.threshold 10000
namespace K57
open PySem PySem.Spec PyProof.Rows L2
/-! ### with ends: what is told -/
theorem tabF_scale {n : Nat} {D k : Int} {A : Mx} (h : 0 < D) (hk : 0 < k) : tabF n D A = tabF n (k * D) fun i j => k * A i j := by
  unfold tabF matG
  refine List.map_congr_left fun i _ => List.map_congr_left fun j _ => ?_
  exact (fr_scale h hk).symm
theorem mem_splits {n : Nat} {A : Mx} {c : List Nat × Int} (h : c ∈ splitsT n A) : ∃ s ∈ cutsUp A (n - 1), c = (s, least A s (beside s n)) := by
  obtain ⟨s, hs, e⟩ := List.mem_map.mp h
  exact ⟨s, (List.mergeSort_perm _ _).mem_iff.mp hs, e.symm⟩
theorem splits_len {n : Nat} {A : Mx} : (splitsT n A).length + 1 ≤ 2 ^ (n - 1) := by
  unfold splitsT
  rw [List.length_map, List.length_mergeSort]
  exact cuts_len A (n - 1)
theorem ends_tot {n : Nat} {f D : Int} {s : Nat → Bool} {w : Nat → Int} (h : EndsOk n f s D w) (hw : ∀ p, w p ≤ 4) (hD : D ≤ 9) : totC (splitsT n (endsM f s D w)) ≤ 72 * 64 := by
  have h1 := tot_bound (b := 72) (l := splitsT n (endsM f s D w)) fun c hc => by
    obtain ⟨side, hs, rfl⟩ := mem_splits hc
    obtain ⟨p, p1, p2, rfl, p3⟩ := ends_cut h hs
    show least _ _ _ ≤ 72
    rw [ends_least h p1 p2]
    have := Int.mul_le_mul hD (hw p) (h.wp p) (by omega)
    omega
  have h2 := splits_len (n := n) (A := endsM f s D w)
  have h3 : (2 : Nat) ^ (n - 1) ≤ 2 ^ 6 := Nat.pow_le_pow_right (by decide) (by have := h.sh.hi; omega)
  have h3 : (2 : Nat) ^ (n - 1) ≤ 64 := h3
  omega
theorem ends_told {n : Nat} {f D : Int} {s : Nat → Bool} {w : Nat → Int} (h : EndsOk n f s D w) {p : Nat} (p1 : 1 ≤ p) (p2 : p < n) (hw : 0 < w p) : (frC (2 * D) (splitsT n (endsM f s D w))).filterMap (fun c => if c.1 = [p] then some c.2 else none) = [fr (w p) 1] := by
  unfold frC splitsT
  rw [List.map_map]
  have P := List.mergeSort_perm (cutsUp (endsM f s D w) (n - 1)) leC
  refine (find_one (fun side => fr (least (endsM f s D w) side (beside side n)) (2 * D)) (P.nodup_iff.mpr (cuts_nodup _ _)) (P.mem_iff.mpr (ends_in h p1 hw (n - 1) (by omega)))).trans ?_
  show [fr (least _ _ _) _] = _
  rw [ends_least h p1 p2]
  have e := fr_scale (a := w p) (d := 1) (k := 2 * D) (by decide) (by have := h.d0; omega)
  rw [Int.mul_one, Int.mul_assoc] at e
  rw [e]
theorem fm_pick {α β : Type} (l : List α) (d : α) (g : α → Option β) : fm (fun k => g (l.getD k d)) l.length = l.filterMap g := by
  unfold fm
  have e2 : (List.range l.length).map (fun i => l.getD i d) = l := by
    refine List.ext_getElem? fun k => ?_
    rw [List.getElem?_map]
    by_cases h : k < l.length
    · rw [List.getElem?_range h, List.getElem?_eq_getElem h]
      simp [List.getD_eq_getElem?_getD, List.getElem?_eq_getElem h]
    · rw [List.getElem?_eq_none (by rw [List.length_range]; omega), List.getElem?_eq_none (by omega)]
      rfl
  have e3 : (List.range l.length).filterMap (fun k => g (l.getD k d)) = ((List.range l.length).map fun i => l.getD i d).filterMap g := by
    rw [List.filterMap_map]
    rfl
  rw [e3, e2]
theorem ends_step {w : Nat → Int} {k : Nat} {r : Int} (w0 : w 0 = 0) (wp : ∀ p : Nat, 0 ≤ w p ∧ w p ≤ 4) (r0 : 0 ≤ r) (r1 : r < 5) :
    ∃ w', endsI w' (k + 1) = endsI w k ++ (if 0 < r then [([k + 1], r)] else []) ∧ w' 0 = 0 ∧ ∀ p : Nat, 0 ≤ w' p ∧ w' p ≤ 4 := by
  refine ⟨fun p => if p = k + 1 then r else w p, ?_, ?_, fun p => ?_⟩
  · rw [endsI_succ, endsI_congr (w' := w) fun p hp => if_neg (by omega)]
    simp only [if_pos]
  · exact (if_neg (by omega)).trans w0
  · have := wp p
    show 0 ≤ (if p = k + 1 then r else w p) ∧ (if p = k + 1 then r else w p) ≤ 4
    split <;> omega
theorem fr_one (z : Int) : fr z 1 = (z, 1) := fr_self (Int.gcd_one_right ..)
theorem Met.long {n : Nat} {A : Mx} (h : Met A) : Long n A := fun i j k _ _ _ _ _ _ => h.tri i j k
section
variable {P : Program} {w : World} {K : PySem.W.Frag} {mg : Str → Option Value} {base : Heap} {ad : Nat → Addr} {fd : Nat → FuncData}
/-! ### _law_with_ends -/
def spEnds (K : PySem.W.Frag) : Sp := fun vs H Q _ => ∃ (a : Addr) (d : Int) (v : V) (n : Nat) (D f : Int) (s : Nat → Bool), vs = [.ref a, v] ∧ H a = some (.lst [.int d]) ∧ TabV K (hid [a] H) v (tabF n D (sidedM f s)) ∧ Sided n D f s ∧
  ∀ H', DeckS H a H' → Q (.bl true) H'
abbrev N36 : List Str := ["deck", "table", "n", "ends", "point", "number", "more", "told", "side", "weight", "found", "cut", "other"]
theorem sc36 : FnScope N36 ["deck", "table"] (defScope (top 36)) := ⟨rfl, rfl, rfl, by decide +kernel, rfl, by decide +kernel, by decide +kernel⟩
theorem ok36 (T : Txt K mg ad fd) : FnOk P w K mg base CX0 8 (ad 36) (fd 36) ["deck", "table"] (spEnds K) := by
  have G30 : FnOk P w K mg base CX0 1 (ad 30) (fd 30) ["deck", "many"] spTake := ok30 T
  have G14 : FnOk P w K mg base CX0 4 (ad 14) (fd 14) ["table", "other"] (spAdded K) := ok14 T
  have G18 : FnOk P w K mg base CX0 4 (ad 18) (fd 18) ["n", "cuts"] (spTable K) := ok18 T
  have G25 : FnOk P w K mg base CX0 6 (ad 25) (fd 25) ["table"] (spSplits K) := ok25 T
  have G26 : FnOk P w K mg base CX0 7 (ad 26) (fd 26) ["table"] (spRest K) := ok26 T
  refine T.d36.F.ok sc36 (fun vs H Q E h => ?_) (fun cdv A outer s H vs Q E hr h => ?_)
  · obtain ⟨a, d, v, n, D, f, s, rfl, _⟩ := h
    rfl
  · obtain ⟨a, d, v, n, D, f, sd, rfl, hd0, ht, hS, q⟩ := h
    have hr6 : Room 6 _ := hr.mono (by decide)
    have hr4 : Room 4 _ := hr.mono (by decide)
    have hr1 : Room 1 _ := hr.mono (by decide)
    obtain ⟨tA, rfl, hG⟩ := grid_at ht
    obtain ⟨xs, hxs, hxl, _⟩ := id hG
    refine ⟨_, pss_cons (ps_set (i := 2) sc36.nd rfl (.inl rfl) (pe_callB call_len_seq (by rfl) T.len PySem.boot_len (pa_cons (pv 1) pa_nil)))
      (pss_cons (ps_set (i := 3) sc36.nd rfl (.inl rfl) (pe_lst pa_nil))
      (pss_cons (ps_for PassesOwn.never rfl (pi_range2 rfl T.range (pa_cons pe_int (pa_cons (pv 2) pa_nil))) (pg_name (i := 4) sc36.nd rfl (Or.inl rfl))
        (pss_cons (ps_set (i := 5) sc36.nd rfl (.inl rfl) (pe_call G30 hr1 (by rfl) T.d30.g T.d30.F.kp T.d30.b .nil pass0 (pa_cons (pv 0) (pa_cons pe_int pa_nil))))
        (pss_one (ps_if (pt_cmpR op_gt (pv 5) pe_int (nomark _)) (pss_one (ps_expr (pe_bm PySem.F.plainAttrs_list PySem.F.slot_list_append PySem.F.type_list_append mt_append (pv 3) (pa_cons
          (pe_tup (pa_cons (pe_lst (pa_cons (pv 4) pa_nil)) (pa_cons (pe_tup (pa_cons (pv 5) (pa_cons pe_int pa_nil))) pa_nil))) pa_nil)))) pss_nil))))
      (pss_cons (ps_set (i := 6) sc36.nd rfl (.inl rfl) (pe_call G14 hr4 (by rfl) T.d14.g T.d14.F.kp T.d14.b .nil pass0 (pa_cons (pv 1) (pa_cons (pe_call G18 hr4 (by rfl) T.d18.g T.d18.F.kp T.d18.b .nil pass0 (pa_cons (pv 2) (pa_cons (pv 3) pa_nil))) pa_nil))))
      (pss_cons (ps_set (i := 7) sc36.nd rfl (.inl rfl) (pe_call G25 hr6 (by rfl) T.d25.g T.d25.F.kp T.d25.b .nil pass0 (pa_cons (pv 6) pa_nil)))
      (pss_cons (ps_for PassesOwn.never rfl (pi_list (pv 3)) (tgK K rfl (pgs_cons (pg_name (i := 8) sc36.nd rfl (.inr rfl)) (pgs_cons (pg_name (i := 9) sc36.nd rfl (.inl rfl)) pgs_nil)))
        (pss_cons (ps_setLc (i := 10) (own := [("cut", 11), ("other", 12)]) (g := gTup K 2 _) (by rfl) sc36.nd rfl rfl (sw_true rfl rfl rfl (by decide +kernel)) (lstK K (pv 7)) (blkOk_by (own := [("cut", 11), ("other", 12)]) (N := N36) (sc := defScope (top 36)) (by decide +kernel))
            (fun _ _ _ _ _ => tgK K (by rfl) (pgs_cons (pg_name (i := 11) sc36.nd rfl (.inl rfl)) (pgs_cons (pg_name (i := 12) sc36.nd rfl (.inl rfl)) pgs_nil)))
            (fun _ _ _ _ _ => pts_one (pt_cmpR (eqK K hr.units) (pv 11) (pv 8) (nomark _))) (fun _ _ _ _ _ => pv 12))
        (pss_one (ps_if (pt_cmpR (neK K hr.units) (pv 10) (pe_lst (pa_cons (pv 9) pa_nil)) (nomark _)) (pss_one ps_never) pss_nil))))
      (pss_one (ps_ret (pe_cmpR (eqK K hr.units) (pe_call G14 hr4 (by rfl) T.d14.g T.d14.F.kp T.d14.b .nil pass0 (pa_cons (pe_call G26 hr (by rfl) T.d26.g T.d26.F.kp T.d26.b .nil pass0 (pa_cons (pv 6) pa_nil))
        (pa_cons (pe_call G18 hr4 (by rfl) T.d18.g T.d18.F.kp T.d18.b .nil pass0 (pa_cons (pv 2) (pa_cons (pv 7) pa_nil))) pa_nil))) (pv 6) (nomark _))))))))), ?_⟩
    have n5 := hS.sh.lo
    have n7 := hS.sh.hi
    have big : (9000 : Nat) < sizeLine := by decide
    have hD : 0 < D := by have := hS.d0; omega
    -- n, ends
    refine ⟨_, rfl, tA, xs, rfl, .inl (hid_sub.seq hxs), ?_⟩
    rw [hxl]
    refine ⟨Nat.zero_le _, fun E nE => ?_⟩
    have DE0 : DeckS H a (upd H E (.lst [])) := (DeckS.refl hd0).new nE
    have nEa : E ≠ a := (DeckS.refl hd0).ne nE
    refine ⟨_, rfl, 1, n, rfl, ⟨by omega, by omega, by omega, by omega⟩, ?_⟩
    have en : ((n : Int) - 1).toNat = n - 1 := by omega
    refine for_range (lo := 1) (n := ((n : Int) - 1).toNat) (fun k σ H' => ∃ y4 y5 w, σ = [some (.ref a), some (.ref tA), some (.int (n : Int)), some (.ref E), y4, y5, none, none, none, none, none, none, none] ∧ DeckS H a H' ∧ w 0 = 0 ∧ (∀ p : Nat, 0 ≤ w p ∧ w p ≤ 4) ∧
        ∃ acc, H' E = some (.lst acc) ∧ Paired (PrV K (CutV K) (FrV K) (hid [E, a] H')) acc (frC 1 (endsI w k)))
      ⟨none, none, fun _ => 0, rfl, DE0, rfl, fun _ => ⟨Int.le_refl 0, show (0 : Int) ≤ 4 by decide⟩, [], upd_same, .nil⟩ (fun k σ H1 hk h => ?_) (fun σ H1 h => ?_)
    · obtain ⟨y4, y5, w, rfl, D1, w0, wp, acc, hE, hacc⟩ := h
      rw [en] at hk
      rw [show (1 : Int) + (k : Int) = ((k + 1 : Nat) : Int) by omega]
      obtain ⟨d1, hd1⟩ := D1.2
      refine ⟨_, rfl, a, d1, 5, rfl, hd1, by decide, by decide, fun r d2 r0 r1 => ?_⟩
      have D2 : DeckS H a (upd H1 a (.lst [.int d2])) := D1.take
      have hE2 : (upd H1 a (.lst [.int d2])) E = some (.lst acc) := by rw [upd_ne nEa]; exact hE
      have hacc2 : Paired (PrV K (CutV K) (FrV K) (hid [E, a] (upd H1 a (.lst [.int d2])))) acc (frC 1 (endsI w k)) := by rw [hid_write (by simp)]; exact hacc
      generalize upd H1 a (.lst [.int d2]) = H2 at D2 hE2 hacc2
      obtain ⟨w', es, w0', wp'⟩ := ends_step (k := k) w0 wp r0 r1
      refine ⟨_, rfl, r, 0, rfl, rfl, _, rfl, ?_⟩
      by_cases hr0 : 0 < r
      · rw [show decide ((0 : Int) < r) = true from decide_eq_true hr0]
        rw [if_pos hr0] at es
        refine iteT ?_
        have lv : Live [E, a] H2 := fun b hb => by
          rcases List.mem_cons.mp hb with z | z
          · rw [z, hE2]; simp
          · exact D2.live b z
        refine ⟨_, rfl, .inl ⟨rfl, _, .of hE2⟩, _, rfl, by show 1 ≤ sizeLine; decide, fun p np => ⟨_, rfl, by show 2 ≤ sizeLine; decide, fun p2 np2 => ⟨by show 2 ≤ sizeLine; decide, fun p3 np3 => ?_⟩⟩⟩
        have t1 := same_new (o := .lst [.int ((k + 1 : Nat) : Int)]) np
        have t2 := same_new (o := .tup [.int r, .int 1]) np2
        have t3 := same_new (o := .tup [.ref p, .ref p2]) np3
        have o1 : p ∉ [E, a] := lv.out np
        have o2 : p2 ∉ [E, a] := (lv.same t1).out np2
        have o3 : p3 ∉ [E, a] := ((lv.same t1).same t2).out np3
        have e1 := t3 _ _ (t2 _ _ (upd_same (H := H2) (a := p) (o := .lst [.int ((k + 1 : Nat) : Int)])))
        have e2 := t3 _ _ (upd_same (H := upd H2 p (.lst [.int ((k + 1 : Nat) : Int)])) (a := p2) (o := .tup [.int r, .int 1]))
        have e3 := upd_same (H := upd (upd H2 p (.lst [.int ((k + 1 : Nat) : Int)])) p2 (.tup [.int r, .int 1])) (a := p3) (o := .tup [.ref p, .ref p2])
        have t := t1.trans (t2.trans t3)
        generalize upd (upd (upd H2 p (.lst [.int ((k + 1 : Nat) : Int)])) p2 (.tup [.int r, .int 1])) p3 (.tup [.ref p, .ref p2]) = H3 at t e1 e2 e3
        have hlen := hacc2.length
        have hlen2 : (frC 1 (endsI w k)).length ≤ k := by unfold frC; rw [List.length_map]; exact endsI_len w k
        refine ⟨E, acc, _, rfl, rfl, t _ _ hE2, by omega, ?_⟩
        refine ⟨_, _, w', rfl, (D2.same t).put nEa nE, w0', wp', acc ++ [.ref p3], upd_same, ?_⟩
        rw [hid_write (by simp), es]
        unfold frC at hacc2 ⊢
        rw [List.map_append]
        refine paired_append (hacc2.mono fun x y z => mono_pr (mono_cutK K) (mono_frK K) _ _ _ _ (hid_mono t) z) (.cons ⟨p3, .ref p, .ref p2, rfl, .of (by rw [hid_out o3]; exact e3), ⟨p, _, rfl, by rw [hid_out o1]; exact e1, .cons rfl .nil⟩, p2, rfl, .of ?_⟩ .nil)
        show hid [E, a] H3 p2 = some (.tup [.int (fr r 1).1, .int (fr r 1).2])
        rw [fr_one, hid_out o2]
        exact e2
      · rw [show decide ((0 : Int) < r) = false from decide_eq_false hr0]
        rw [if_neg hr0, List.append_nil] at es
        refine iteF ⟨_, _, w', rfl, D2, w0', wp', acc, hE2, ?_⟩
        rw [es]
        exact hacc2
    · obtain ⟨y4, y5, w, rfl, D1, w0, wp, acc, hE, hacc⟩ := h
      rw [en] at hacc
      have ok : EndsOk n f sd D w := ⟨hS.sh, hS.f0, hS.d0, w0, fun p => (wp p).1⟩
      have hw4 : ∀ p, w p ≤ 4 := fun p => (wp p).2
      have ht1 : TabV K (hid [a] H1) (.ref tA) (tabF n D (sidedM f sd)) := mono_tabK K _ _ _ _ D1.1 ht
      have hlen := hacc.length
      have hlen2 : (frC 1 (endsI w (n - 1))).length ≤ n - 1 := by unfold frC; rw [List.length_map]; exact endsI_len w (n - 1)
      have tote : totC (endsI w (n - 1)) ≤ 4 * 7 := by
        have h1 := tot_bound (b := 4) (l := endsI w (n - 1)) fun c hc => by
          obtain ⟨p, _, _, _, rfl⟩ := mem_endsI hc
          exact hw4 p
        have h2 := endsI_len w (n - 1)
        omega
      have tote0 : 0 ≤ totC (endsI w (n - 1)) := by
        have := sum_le (endsI_pos w (n - 1)) 0 0
        omega
      have hm := Met.ends (f := f) (D := D) (s := sd) (w := w) (by have := hS.f0; omega) (by omega) (fun p => (wp p).1)
      have b1 : ∀ i j, 0 ≤ sidedM f sd i j ∧ sidedM f sd i j < 2 ^ 900 := fun i j => by
        refine ⟨(Met.sided sd (by have := hS.f0; omega)).lo i j, Int.lt_of_le_of_lt (sided_hi sd (by have := hS.f0; omega) i j) ?_⟩
        have := hS.f1
        have e : (2 : Int) * 10 ^ 20 < 2 ^ 900 := by decide
        omega
      have b2 : ∀ i j, 0 ≤ D * wM w i j ∧ D * wM w i j ≤ 72 := fun i j => by
        have h1 := wM_hi (fun p => (wp p).1) hw4 i j
        refine ⟨Int.mul_nonneg (by omega) h1.1, ?_⟩
        have := Int.mul_le_mul hS.d1 h1.2 h1.1 (by omega)
        omega
      have b3 : ∀ i j, 0 ≤ endsM f sd D w i j ∧ endsM f sd D w i j < 2 ^ 900 := fun i j => by
        refine ⟨hm.lo i j, ?_⟩
        have h1 := sided_hi sd (show 0 ≤ f by have := hS.f0; omega) i j
        have h2 := (b2 i j).2
        have h3 := hS.f1
        have e : (2 : Int) * 10 ^ 20 + 72 < 2 ^ 900 := by decide
        unfold sidedM at h1
        unfold endsM
        omega
      have dS : D < 2 ^ 900 := Int.lt_of_le_of_lt hS.d1 (by decide)
      have T1 := tabS_of (n := n) (D := D) (A := sidedM f sd) hD dS fun i j _ _ => b1 i j
      have T2 := tabS_of (n := n) (D := D) (A := fun i j => D * wM w i j) hD dS fun i j _ _ => ⟨(b2 i j).1, Int.lt_of_le_of_lt (b2 i j).2 (by decide)⟩
      have T3 := tabS_of (n := n) (D := D) (A := endsM f sd D w) hD dS fun i j _ _ => b3 i j
      have sumW : tabF n 1 (sumC (endsI w (n - 1))) = tabF n D fun i j => D * wM w i j := by
        rw [tabF_congr (B := wM w) fun i j hi hj => endsI_sum (fun p => (wp p).1) w0 hi hj]
        have e := tabF_scale (n := n) (D := 1) (k := D) (A := wM w) (by decide) hD
        rw [Int.mul_one] at e
        exact e
      -- more
      refine ⟨_, rfl, _, rfl, _, rfl, [a], .ref E, n, 1, endsI w (n - 1), rfl, D1.live, ?_, by decide, by decide, endsI_pos w (n - 1), sm_up (a := 10) (by decide) (sm_of tote0 (by omega)), by omega, fun rl H2 sm2 hrl => ?_⟩
      · exact ⟨E, acc, rfl, by rw [hid_out (by simpa using nEa)]; exact hE, hacc.mono fun x y z => mono_pr (mono_cutK K) (mono_frK K) _ _ _ _ hid_tail z⟩
      rw [sumW] at hrl
      refine ⟨[a], .ref tA, rl, n, D, sidedM f sd, fun i j => D * wM w i j, rfl, (D1.same sm2).live, mono_tabK K _ _ _ _ (hid_mono sm2) ht1, hrl, T1.1, T2.1, by omega, fun rm H3 sm3 hrm => ?_⟩
      have hrm : TabV K (hid [a] H3) rm (tabF n D (endsM f sd D w)) := hrm
      have D3 := D1.same (sm2.trans sm3)
      -- told
      refine ⟨_, rfl, [a], rm, n, D, endsM f sd D w, rfl, D3.live, hrm, T3.1, by omega, by omega, hm.long, fun rt H4 sm4 hrt => ?_⟩
      have D4 := D3.same sm4
      have s4 := sm2.trans (sm3.trans sm4)
      have htot := ends_tot ok hw4 hS.d1
      have htot0 : 0 ≤ totC (splitsT n (endsM f sd D w)) := by
        have := sum_le (splits_pos (n := n) (A := endsM f sd D w)) 0 0
        omega
      have htS : Sm 1000 (totC (splitsT n (endsM f sd D w))) := sm_up (a := 20) (by decide) (sm_of htot0 (by omega))
      -- each end
      obtain ⟨tl, accT, rfl, hT, hpT⟩ := id hrt
      have lenT := hpT.length
      have lenT2 : (frC (2 * D) (splitsT n (endsM f sd D w))).length ≤ 64 := by
        have h2 := splits_len (n := n) (A := endsM f sd D w)
        have h3 : (2 : Nat) ^ (n - 1) ≤ 2 ^ 6 := Nat.pow_le_pow_right (by decide) (by omega)
        have h3 : (2 : Nat) ^ (n - 1) ≤ 64 := h3
        unfold frC
        rw [List.length_map]
        omega
      refine ⟨_, rfl, E, rfl, ⟨_, .of (s4 _ _ hE)⟩, ?_⟩
      refine for_list (K := K) (a := E) (xs := acc) (fun i σ H' => ∃ y8 y9 y10, σ = [some (.ref a), some (.ref tA), some (.int (n : Int)), some (.ref E), y4, y5, some rm, some (.ref tl), y8, y9, y10, none, none] ∧ Same H4 H')
        ⟨none, none, none, rfl, Same.refl _⟩ (fun i σ H' _ ⟨_, _, _, _, sm⟩ => .of (sm _ _ (s4 _ _ hE))) (fun i x σ H5 hi h => ?_) (fun σ H5 h => ?_)
      · obtain ⟨y8, y9, y10, rfl, sm5⟩ := h
        obtain ⟨c, hc, t, x1, x2, rfl, ht5, hcut, hfr⟩ := paired_get' hacc hi
        have hcm := List.mem_of_getElem? hc
        obtain ⟨c0, hc0, rfl⟩ := List.mem_map.mp hcm
        obtain ⟨p, p1, p2, p3, rfl⟩ := mem_endsI hc0
        have sE : Same (hid [E, a] H1) H5 := Same.trans hid_sub (s4.trans sm5)
        have hcut5 := mono_cutK K _ _ _ _ sE hcut
        have hfr5 := mono_frK K _ _ _ _ sE hfr
        refine ⟨t, [x1, x2], rfl, Same.tup sE ht5, rfl, _, _, rfl, _, [], rfl, rfl, ?_⟩
        have D5 := D4.same sm5
        -- found
        refine ⟨_, rfl, tl, rfl, ⟨_, .of (sm5 _ _ (hid_sub _ _ hT))⟩, fun F nF => ?_⟩
        refine lc_gen (walk_list (xs := accT)) (l := [a]) (mono_frK K) (fun k => if ((frC (2 * D) (splitsT n (endsM f sd D w))).getD k ([], (0, 1))).1 = [p] then some ((frC (2 * D) (splitsT n (endsM f sd D w))).getD k ([], (0, 1))).2 else none) nF D5.live (by omega) (fun H6 sm6 => .of (sm6 _ _ (sm5 _ _ (hid_sub _ _ hT))))
          (fun k y H6 H7 Put Skip hk sm6 hF hy hput hskip => ?_) (fun H6 sm6 hM => ?_)
        · obtain ⟨rfl, hx⟩ := hy
          obtain ⟨c, hc, t', z1, z2, rfl, ht7, hcut7, hfr7⟩ := paired_get' hpT hx
          have ec : (frC (2 * D) (splitsT n (endsM f sd D w))).getD k ([], (0, 1)) = c := by
            rw [List.getD_eq_getElem?_getD, hc]
            rfl
          rw [ec] at hput hskip
          have s7 := sm5.trans sm6
          have sh7 : Same (hid [a] H4) H7 := Same.trans hid_sub s7
          refine ⟨t', [z1, z2], rfl, Same.tup sh7 ht7, rfl, _, _, rfl, _, [], rfl, rfl, rfl, ?_⟩
          refine ⟨_, rfl, _, rfl, Enc.eq (enc_cut (K := K)) (by decide) (mono_cutK K _ _ _ _ sh7 hcut7) (mono_cutK K _ _ _ _ sm6 hcut5) ⟨_, rfl, ?_⟩⟩
          by_cases hcp : c.1 = [p]
          · rw [show decide (c.1 = [p]) = true from decide_eq_true hcp]
            refine iteT ⟨_, rfl, hput _ _ c.2 (Same.refl _) (if_pos hcp) ?_⟩
            exact mono_frK K _ _ _ _ (hid_push s7 (sm5.free nF)) hfr7
          · rw [show decide (c.1 = [p]) = false from decide_eq_false hcp]
            exact iteF (hskip _ (Same.refl _) (if_neg hcp))
        · have hL := hM.ls (K := K) (mono_frK K)
          have e := (fm_pick (frC (2 * D) (splitsT n (endsM f sd D w))) ([], (0, 1)) fun c => if c.1 = [p] then some c.2 else none).trans (ends_told ok p1 (by omega) p3)
          rw [lenT, e] at hL
          have hL : LsV K (FrV K) H6 (.ref F) [fr (w p) 1] := mono_ls (mono_frK K) _ _ _ _ hid_sub hL
          refine ⟨_, rfl, _, rfl, by show 1 ≤ sizeLine; decide, fun p4 np4 => ?_⟩
          have t7 := same_new (o := .lst [x2]) np4
          refine Enc.ne (enc_ls (enc_fr (K := K))) (by decide) (mono_ls (mono_frK K) _ _ _ _ t7 hL) ⟨p4, [x2], rfl, upd_same, .cons (mono_frK K _ _ _ _ (sm6.trans t7) hfr5) .nil⟩ ⟨_, rfl, ?_⟩
          rw [show (!decide ([fr (w p) 1] = [fr (w p) 1])) = false by rw [decide_eq_true rfl]; rfl]
          exact iteF ⟨_, _, _, rfl, sm5.trans (sm6.trans t7)⟩
      · obtain ⟨y8, y9, y10, rfl, sm5⟩ := h
        have D5 := D4.same sm5
        have hrm5 : TabV K (hid [a] H5) rm (tabF n D (endsM f sd D w)) := mono_tabK K _ _ _ _ (hid_mono (sm4.trans sm5)) hrm
        refine ⟨_, rfl, [a], rm, n, D, endsM f sd D w, rfl, D5.live, hrm5, T3.1, T3.2, by omega, by omega, hm.long, htS, fun rr H6 sm6 hrr => ?_⟩
        refine ⟨_, rfl, _, rfl, [a], .ref tl, n, 2 * D, splitsT n (endsM f sd D w), rfl, (D5.same sm6).live, mono_cutsK K _ _ _ _ (hid_mono (sm5.trans sm6)) hrt, T3.2.pos, T3.2.d, splits_pos, htS, by omega, fun rs H7 sm7 hrs => ?_⟩
        have bS : ∀ i j, 0 ≤ sumC (splitsT n (endsM f sd D w)) i j ∧ sumC (splitsT n (endsM f sd D w)) i j ≤ 72 * 64 := fun i j => by
          have h1 := sum_le (splits_pos (n := n) (A := endsM f sd D w)) i j
          exact ⟨h1.1, Int.le_trans h1.2 htot⟩
        have T4 : TabS n (2 * D) (sumC (splitsT n (endsM f sd D w))) := ⟨T3.2.pos, T3.2.d, fun i j _ _ => sm_up (a := 20) (by decide) (sm_of (bS i j).1 (Int.lt_of_le_of_lt (bS i j).2 (by decide)))⟩
        have T5 : TabS n (2 * D) (restM n (endsM f sd D w)) := ⟨T3.2.pos, T3.2.d, fun i j hi hj => by
          have h1 := b3 i j
          have h2 := bS i j
          have e : (2 : Int) ^ 900 * 2 + 72 * 64 < 2 ^ 1000 := by decide
          have e2 : ((2 : Nat) ^ 1000 : Nat) = (2 : Int) ^ 1000 := by decide
          show _ < 2 ^ 1000
          unfold restM
          omega⟩
        refine ⟨[a], rr, rs, n, 2 * D, restM n (endsM f sd D w), sumC (splitsT n (endsM f sd D w)), rfl, ((D5.same sm6).same sm7).live, mono_tabK K _ _ _ _ (hid_mono sm7) hrr, hrs, T5, T4, by omega, fun ru H8 sm8 hru => ?_⟩
        have s8 := sm6.trans (sm7.trans sm8)
        have e : tabF n (2 * D) (fun i j => restM n (endsM f sd D w) i j + sumC (splitsT n (endsM f sd D w)) i j) = tabF n D (endsM f sd D w) := by
          rw [tabF_two hD]
          refine tabF_congr fun i j _ _ => ?_
          unfold restM
          omega
        rw [e] at hru
        refine ⟨_, rfl, ?_⟩
        refine Enc.eq (enc_tab (K := K)) (by decide) (mono_tabK K _ _ _ _ hid_sub hru) (mono_tabK K _ _ _ _ (Same.trans hid_sub s8) hrm5) ?_
        rw [decide_eq_true rfl]
        exact q _ (D5.same s8)
end
end K57
end

section
set_option Elab.async false
set_option linter.all false
set_option maxRecDepth 100000
set_option maxHeartbeats 4000000
set_option exponentiation.threshold 10000
namespace K57
open PySem PySem.Spec PyProof.Rows L2
/-! ### two sided tables hung together -/
theorem rowsH_tab {n m p o : Nat} {D : Int} {A B : Mx} (hA : Met A) (hB : Met B) (hp : p < n) (ho : o < m) : rowsH n D A B p o (thereL m o) = tabF (n + (m - 1)) D (hungM A B n p o) := by
  unfold rowsH thereL
  rw [there_skip ho]
  unfold tabF matG
  rw [List.range_add, List.map_append, List.map_map, List.map_map]
  have ph : ∀ i, i < n → phiN n p i = i := fun i hi => if_pos hi
  have ps : ∀ i, i < n → psiN n o i = o := fun i hi => if_pos hi
  have ph' : ∀ k, phiN n p (n + k) = p := fun k => if_neg (by omega)
  have ps' : ∀ k, psiN n o (n + k) = skipN o k := fun k => by
    unfold psiN
    rw [if_neg (by omega), Nat.add_sub_cancel_left]
  congr 1
  · refine List.map_congr_left fun i hi => ?_
    have hi := List.mem_range.mp hi
    rw [List.map_append, List.map_map, List.map_map]
    congr 1
    · refine List.map_congr_left fun j hj => ?_
      have hj := List.mem_range.mp hj
      show fr (A i j) D = fr (hungM A B n p o i j) D
      unfold hungM
      rw [ph i hi, ph j hj, ps i hi, ps j hj, hB.self, Int.add_zero]
    · refine List.map_congr_left fun k _ => ?_
      show fr (A i p + B (skipN o k) o) D = fr (hungM A B n p o i (n + k)) D
      unfold hungM
      rw [ph i hi, ph' k, ps i hi, ps' k, hB.sym o]
  · refine List.map_congr_left fun k _ => ?_
    show ((List.range n).map fun i => fr (A i p + B (skipN o k) o) D) ++ ((List.range (m - 1)).map (skipN o)).map (fun q => fr (B (skipN o k) q) D) = (List.range n ++ (List.range (m - 1)).map fun x => n + x).map fun j => fr (hungM A B n p o (n + k) j) D
    rw [List.map_append, List.map_map, List.map_map]
    congr 1
    · refine List.map_congr_left fun i hi => ?_
      have hi := List.mem_range.mp hi
      unfold hungM
      rw [ph i hi, ph' k, ps i hi, ps' k, hA.sym p i]
    · refine List.map_congr_left fun q _ => ?_
      show fr (B (skipN o k) (skipN o q)) D = fr (hungM A B n p o (n + k) (n + q)) D
      unfold hungM
      rw [ph' k, ph' q, ps' k, ps' q, hA.self, Int.zero_add]
section
variable {P : Program} {w : World} {K : PySem.W.Frag} {mg : Str → Option Value} {base : Heap} {ad : Nat → Addr} {fd : Nat → FuncData}
/-! ### law -/
theorem sided_conv {n : Nat} {D k f : Int} {s : Nat → Bool} (hD : 0 < D) (hk : 0 < k) : tabF n D (sidedM f s) = tabF n (k * D) (sidedM (k * f) s) := by
  rw [tabF_scale hD hk]
  refine tabF_congr fun i j _ _ => ?_
  unfold sidedM
  exact (Int.mul_assoc ..).symm
theorem sided_tabS {n : Nat} {D f : Int} {s : Nat → Bool} (h0 : 1 ≤ f) (h1 : f ≤ 10 ^ 22) (d0 : 1 ≤ D) (d1 : D ≤ 100) : TabS n D (sidedM f s) ∧ TabS n (2 * D) fun i j => 2 * sidedM f s i j :=
  tabS_of (by omega) (Int.lt_of_le_of_lt d1 (by decide)) fun i j _ _ => by
    refine ⟨(Met.sided s (by omega)).lo i j, Int.lt_of_le_of_lt (sided_hi s (by omega) i j) ?_⟩
    have e : (2 : Int) * 10 ^ 22 < 2 ^ 900 := by decide
    omega
theorem sided_up {n : Nat} {D f k : Int} {s : Nat → Bool} (h : Sided n D f s) (k1 : 1 ≤ k) (k9 : k ≤ 9) : 1 ≤ k * f ∧ k * f ≤ 10 ^ 22 ∧ 1 ≤ k * D ∧ k * D ≤ 100 := by
  have h1 := Int.mul_le_mul k9 h.f1 (by have := h.f0; omega) (by omega)
  have h2 := Int.mul_le_mul k9 h.d1 (by have := h.d0; omega) (by omega)
  have h3 := Int.mul_pos (show 0 < k by omega) (show 0 < f by have := h.f0; omega)
  have h4 := Int.mul_pos (show 0 < k by omega) (show 0 < D by have := h.d0; omega)
  have e : (9 : Int) * 10 ^ 20 ≤ 10 ^ 22 := by decide
  omega
theorem sided_bare {n : Nat} {D f : Int} {s : Nat → Bool} (h : Sided n D f s) : cutsUp (sidedM f s) (n - 1) = [] :=
  bare_cuts (sided_sym f s) (by have := h.sh.lo; omega) (bare_sided h.sh (by have := h.f0; omega))
theorem hung_facts {n m : Nat} {f g : Int} {s t : Nat → Bool} {p o : Nat} (hs : Shape n s) (ht : Shape m t) (f0 : 1 ≤ f) (f1 : f ≤ 10 ^ 22) (g0 : 1 ≤ g) (g1 : g ≤ 10 ^ 22) (hp : p < n) (ho : o < m) {D : Int} (d0 : 1 ≤ D) (d1 : D ≤ 100) :
    Met (hungM (sidedM f s) (sidedM g t) n p o) ∧ cutsUp (hungM (sidedM f s) (sidedM g t) n p o) (n + (m - 1) - 1) = [] ∧
    (TabS (n + (m - 1)) D (hungM (sidedM f s) (sidedM g t) n p o) ∧ TabS (n + (m - 1)) (2 * D) fun i j => 2 * hungM (sidedM f s) (sidedM g t) n p o i j) := by
  have mA := Met.sided s (show 0 ≤ f by omega)
  have mB := Met.sided t (show 0 ≤ g by omega)
  have mH := Met.hung mA mB n p o
  have hl := hs.lo
  refine ⟨mH, bare_cuts mH.sym (by omega) (bare_hung mA mB (bare_sided hs (by omega)) (bare_sided ht (by omega)) hp ho), tabS_of (by omega) (Int.lt_of_le_of_lt d1 (by decide)) fun i j _ _ => ⟨mH.lo i j, ?_⟩⟩
  have h1 := sided_hi s (show 0 ≤ f by omega) (phiN n p i) (phiN n p j)
  have h2 := sided_hi t (show 0 ≤ g by omega) (psiN n o i) (psiN n o j)
  have e : (4 : Int) * 10 ^ 22 < 2 ^ 900 := by decide
  unfold hungM
  omega
theorem mem_cutV {xs : List V} {lo hi : Option Int} {x : V} (h : x ∈ cutV xs lo hi) : x ∈ xs := List.mem_of_mem_drop (List.mem_of_mem_take h)
theorem hid_none {H : Hp} {a : Addr} {o : HO} (h : H a = none) : hid [a] (upd H a o) = H := by
  rw [hid_write (by simp)]
  funext b
  unfold hid
  by_cases e : b ∈ [a]
  · rw [if_pos e]
    have e : b = a := by simpa using e
    rw [e, h]
  · rw [if_neg e]
def spLaw : Sp := fun vs H Q _ => ∃ (a : Addr) (ns : List Int), vs = [.ref a] ∧ SqL K H a (ns.map V.int) ∧ ns.length ≤ 63 ∧ ∀ H', Q (.bl true) H'
abbrev N37 : List Str := ["script", "cell", "deck", "table", "other", "both", "far"]
theorem sc37 : FnScope N37 ["script"] (defScope (top 37)) := ⟨rfl, rfl, rfl, by decide +kernel, rfl, by decide +kernel, by decide +kernel⟩
theorem ok37 (T : Txt K mg ad fd) : FnOk P w K mg base CX0 9 (ad 37) (fd 37) ["script"] (spLaw (K := K)) := by
  have G29 : FnOk P w K mg base CX0 2 (ad 29) (fd 29) ["cell"] spDeck := ok29 T
  have G30 : FnOk P w K mg base CX0 1 (ad 30) (fd 30) ["deck", "many"] spTake := ok30 T
  have G33 : FnOk P w K mg base CX0 3 (ad 33) (fd 33) ["deck"] (spSided K) := ok33 T
  have G34 : FnOk P w K mg base CX0 8 (ad 34) (fd 34) ["table"] (spIsBare K) := ok34 T
  have G36 : FnOk P w K mg base CX0 8 (ad 36) (fd 36) ["deck", "table"] (spEnds K) := ok36 T
  have G15 : FnOk P w K mg base CX0 4 (ad 15) (fd 15) ["table", "point", "other", "other_point"] (spHung K) := ok15 T
  have G31 : FnOk P w K mg base CX0 1 (ad 31) (fd 31) ["top", "bottom"] (spFraction K) := ok31 T
  have G35 : FnOk P w K mg base CX0 8 (ad 35) (fd 35) ["n", "far"] (spEven K) := ok35 T
  refine T.d37.F.ok sc37 (fun vs H Q E h => ?_) (fun cdv A outer s H vs Q E hr h => ?_)
  · obtain ⟨a, ns, rfl, _⟩ := h
    rfl
  · obtain ⟨sa, ns, rfl, hsa, hns, q⟩ := h
    have hr4 : Room 4 _ := hr.mono (by decide)
    have hr3 : Room 3 _ := hr.mono (by decide)
    have hr2 : Room 2 _ := hr.mono (by decide)
    have hr1 : Room 1 _ := hr.mono (by decide)
    refine ⟨_, pss_cons (ps_for PassesOwn.never rfl (pi_list (pe_op op_cat (pe_lst (pa_cons (pe_op op_pow pe_int pe_int) pa_nil)) (pe_slice sl_list (pv 0) po_none (po_some pe_int)))) (pg_name (i := 1) sc37.nd rfl (Or.inl rfl))
        (pss_cons (ps_set (i := 2) sc37.nd rfl (.inl rfl) (pe_call G29 hr2 (by rfl) T.d29.g T.d29.F.kp T.d29.b .nil pass0 (pa_cons (pv 1) pa_nil)))
        (pss_cons (ps_set (i := 3) sc37.nd rfl (.inl rfl) (pe_call G33 hr3 (by rfl) T.d33.g T.d33.F.kp T.d33.b .nil pass0 (pa_cons (pv 2) pa_nil)))
        (pss_cons (ps_set (i := 4) sc37.nd rfl (.inl rfl) (pe_call G33 hr3 (by rfl) T.d33.g T.d33.F.kp T.d33.b .nil pass0 (pa_cons (pv 2) pa_nil)))
        (pss_cons (ps_if (PW.pt (pw_or (pt_not (pt_val (pe_call G34 hr (by rfl) T.d34.g T.d34.F.kp T.d34.b .nil pass0 (pa_cons (pv 3) pa_nil))))
            (pw_or1 (pt_not (pt_val (pe_call G36 hr (by rfl) T.d36.g T.d36.F.kp T.d36.b .nil pass0 (pa_cons (pv 2) (pa_cons (pv 3) pa_nil)))))))) (pss_one ps_never) pss_nil)
        (pss_cons (ps_if (pt_cmpR op_lt (pe_op op_add (pe_callB call_len_seq (by rfl) T.len PySem.boot_len (pa_cons (pv 3) pa_nil)) (pe_callB call_len_seq (by rfl) T.len PySem.boot_len (pa_cons (pv 4) pa_nil))) pe_int (nomark _))
            (pss_cons (ps_set (i := 5) sc37.nd rfl (.inl rfl) (pe_call G15 hr4 (by rfl) T.d15.g T.d15.F.kp T.d15.b .nil pass0 (pa_cons (pv 3) (pa_cons
                (pe_call G30 hr1 (by rfl) T.d30.g T.d30.F.kp T.d30.b .nil pass0 (pa_cons (pv 2) (pa_cons (pe_callB call_len_seq (by rfl) T.len PySem.boot_len (pa_cons (pv 3) pa_nil)) pa_nil)))
                (pa_cons (pv 4) (pa_cons (pe_call G30 hr1 (by rfl) T.d30.g T.d30.F.kp T.d30.b .nil pass0 (pa_cons (pv 2) (pa_cons (pe_callB call_len_seq (by rfl) T.len PySem.boot_len (pa_cons (pv 4) pa_nil)) pa_nil))) pa_nil))))))
              (pss_one (ps_if (pt_not (pt_val (pe_call G34 hr (by rfl) T.d34.g T.d34.F.kp T.d34.b .nil pass0 (pa_cons (pv 5) pa_nil)))) (pss_one ps_never) pss_nil))) pss_nil)
        (pss_cons (ps_set (i := 6) sc37.nd rfl (.inl rfl) (pe_call G31 hr1 (by rfl) T.d31.g T.d31.F.kp T.d31.b .nil pass0 (pa_cons (pe_op op_add pe_int (pe_call G30 hr1 (by rfl) T.d30.g T.d30.F.kp T.d30.b .nil pass0 (pa_cons (pv 2) (pa_cons
              (pe_ix (ixlK K) (pe_lst (pa_cons pe_int (pa_cons (pe_op op_pow pe_int pe_int) pa_nil))) (pe_call G30 hr1 (by rfl) T.d30.g T.d30.F.kp T.d30.b .nil pass0 (pa_cons (pv 2) (pa_cons pe_int pa_nil))) (fun _ _ => rfl)) pa_nil))))
            (pa_cons (pe_op op_add pe_int (pe_call G30 hr1 (by rfl) T.d30.g T.d30.F.kp T.d30.b .nil pass0 (pa_cons (pv 2) (pa_cons pe_int pa_nil)))) pa_nil))))
        (pss_one (ps_if (pt_not (pt_val (pe_call G35 hr (by rfl) T.d35.g T.d35.F.kp T.d35.b .nil pass0 (pa_cons (pe_op op_add pe_int (pe_call G30 hr1 (by rfl) T.d30.g T.d30.F.kp T.d30.b .nil pass0 (pa_cons (pv 2) (pa_cons pe_int pa_nil)))) (pa_cons (pv 6) pa_nil))))) (pss_one ps_never) pss_nil)))))))))
      (pss_one (ps_ret pe_bl)), ?_⟩
    have big : (9000 : Nat) < sizeLine := by decide
    -- the cells
    refine ⟨10, 18, rfl, rfl, by unfold CPow; decide, by show 1 ≤ sizeLine; decide, fun p1 np1 => ⟨_, rfl, 2, rfl, sa, ns.map V.int, rfl, (same_new np1).seq hsa, fun p2 np2 => ?_⟩⟩
    have t1 := same_new (o := .lst [.int ((10 : Int) ^ (18 : Int).toNat)]) np1
    have t2 := same_new (o := .lst (cutV (ns.map V.int) none (some 2))) np2
    refine ⟨p1, p2, _, _, rfl, rfl, t2 _ _ upd_same, upd_same, ?_, fun p3 np3 => ?_⟩
    · have h1 := cutV_length (ns.map V.int) none (some 2)
      rw [List.length_map] at h1
      simp only [List.length_singleton]
      omega
    refine ⟨p3, rfl, ⟨_, .of upd_same⟩, ?_⟩
    have hint : ∀ x ∈ [V.int ((10 : Int) ^ (18 : Int).toNat)] ++ cutV (ns.map V.int) none (some 2), ∃ c : Int, x = .int c := fun x hx => by
      rcases List.mem_append.mp hx with z | z
      · exact ⟨_, by simpa using z⟩
      · obtain ⟨c, _, e⟩ := List.mem_map.mp (mem_cutV z)
        exact ⟨c, e.symm⟩
    have e3 := upd_same (H := upd (upd H p1 (.lst [.int ((10 : Int) ^ (18 : Int).toNat)])) p2 (.lst (cutV (ns.map V.int) none (some 2)))) (a := p3) (o := .lst ([V.int ((10 : Int) ^ (18 : Int).toNat)] ++ cutV (ns.map V.int) none (some 2)))
    generalize upd (upd (upd H p1 (.lst [.int ((10 : Int) ^ (18 : Int).toNat)])) p2 (.lst (cutV (ns.map V.int) none (some 2)))) p3 (.lst ([V.int ((10 : Int) ^ (18 : Int).toNat)] ++ cutV (ns.map V.int) none (some 2))) = H0 at e3
    generalize [V.int ((10 : Int) ^ (18 : Int).toNat)] ++ cutV (ns.map V.int) none (some 2) = L at e3 hint
    clear t1 t2 np1 np2 np3
    refine for_list (K := K) (a := p3) (xs := L) (fun i σ H' => ∃ y1 y2 y3 y4 y5 y6, σ = [some (.ref sa), y1, y2, y3, y4, y5, y6] ∧ Same H0 H')
      ⟨none, none, none, none, none, none, rfl, Same.refl _⟩ (fun i σ H' _ ⟨_, _, _, _, _, _, _, sm⟩ => .of (sm _ _ e3)) (fun i x σ H1 hi h => ?_) (fun σ H1 h => ?_)
    · obtain ⟨y1, y2, y3, y4, y5, y6, rfl, sm⟩ := h
      obtain ⟨c, rfl⟩ := hint x (List.mem_of_getElem? hi)
      refine ⟨_, rfl, c, rfl, fun a d na => ?_⟩
      have back : ∀ H', DeckS (upd H1 a (.lst [.int d])) a H' → Same H0 H' := fun H' h => by
        have h1 := h.1
        rw [hid_none na] at h1
        exact sm.trans (h1.trans hid_sub)
      have hd := upd_same (H := H1) (a := a) (o := .lst [.int d])
      generalize upd H1 a (.lst [.int d]) = HD at back hd
      -- two tables
      refine ⟨_, rfl, a, d, rfl, hd, fun v1 H2 n1 D1 f1 s1 K1 S1 T1 => ?_⟩
      obtain ⟨d2, e2⟩ := K1.2
      refine ⟨_, rfl, a, d2, rfl, e2, fun v2 H3 n2 D2 f2 s2 K2 S2 T2 => ?_⟩
      have K3 := K1.trans K2
      have T1 := mono_tabK K _ _ _ _ K2.1 T1
      have B1 := sided_tabS (n := n1) (s := s1) S1.f0 (Int.le_trans S1.f1 (by decide)) S1.d0 (Int.le_trans S1.d1 (by decide))
      have l1 := S1.sh.lo
      have l2 := S1.sh.hi
      have l3 := S2.sh.lo
      have l4 := S2.sh.hi
      refine ⟨_, rfl, v1, n1, D1, sidedM f1 s1, rfl, mono_tabK K _ _ _ _ hid_sub T1, B1.1, B1.2, by omega, by omega, (Met.sided s1 (by have := S1.f0; omega)).long, sided_bare S1, fun H4 sm4 => ?_⟩
      refine ⟨_, rfl, ?_⟩
      refine iteF ?_
      have K4 := K3.same sm4
      have T1 := mono_tabK K _ _ _ _ (hid_mono sm4) T1
      have T2 := mono_tabK K _ _ _ _ (hid_mono sm4) T2
      obtain ⟨d4, e4⟩ := K4.2
      refine ⟨_, rfl, _, rfl, a, d4, v1, n1, D1, f1, s1, rfl, e4, T1, S1, fun H5 K5 => ?_⟩
      refine ⟨_, rfl, ?_⟩
      refine iteF ?_
      have T1 := mono_tabK K _ _ _ _ K5.1 T1
      have T2 := mono_tabK K _ _ _ _ K5.1 T2
      have K6 := K4.trans K5
      clear K5 K3 K4 sm4 e4
      obtain ⟨tA, rfl, GA⟩ := grid_at T1
      obtain ⟨tB, rfl, GB⟩ := grid_at T2
      obtain ⟨xs, hxs, hxl, _⟩ := id GA
      obtain ⟨ys, hys, hyl, _⟩ := id GB
      refine ⟨_, rfl, tA, xs, rfl, .inl (hid_sub.seq hxs), ?_⟩
      rw [hxl]
      refine ⟨_, rfl, tB, ys, rfl, .inl (hid_sub.seq hys), ?_⟩
      rw [hyl]
      refine ⟨_, _, rfl, rfl, _, 11, rfl, rfl, _, rfl, ?_⟩
      by_cases hlt : n1 + n2 < 11
      · rw [show decide (((n1 : Nat) : Int) + ((n2 : Nat) : Int) < 11) = true from decide_eq_true (by omega)]
        refine iteT ?_
        obtain ⟨d5, e5⟩ := K6.2
        refine ⟨_, rfl, _, rfl, _, rfl, tA, xs, rfl, .inl (hid_sub.seq hxs), ?_⟩
        rw [hxl]
        refine ⟨a, d5, (n1 : Int), rfl, e5, by omega, sm_up (a := 10) (by decide) (by show _ < 2 ^ 10; omega), fun rp d13 rp0 rp1 => ?_⟩
        have K13 := K6.take (d := d13)
        have T13 : TabV K (hid [a] (upd H5 a (.lst [.int d13]))) (.ref tA) (tabF n1 D1 (sidedM f1 s1)) := by rw [hid_write (by simp)]; exact T1
        have U13 : TabV K (hid [a] (upd H5 a (.lst [.int d13]))) (.ref tB) (tabF n2 D2 (sidedM f2 s2)) := by rw [hid_write (by simp)]; exact T2
        have ys13 : SqL K (upd H5 a (.lst [.int d13])) tB ys := by
          have e : hid [a] (upd H5 a (.lst [.int d13])) = hid [a] H5 := hid_write (by simp)
          exact (hid_sub (l := [a])).seq (by rw [e]; exact hys)
        have e13 := upd_same (H := H5) (a := a) (o := .lst [.int d13])
        generalize upd H5 a (.lst [.int d13]) = H13 at K13 T13 U13 ys13 e13
        refine ⟨_, rfl, _, rfl, _, rfl, tB, ys, rfl, .inl ys13, ?_⟩
        rw [hyl]
        refine ⟨a, d13, (n2 : Int), rfl, e13, by omega, sm_up (a := 10) (by decide) (by show _ < 2 ^ 10; omega), fun ro d14 ro0 ro1 => ?_⟩
        have K14 := K13.take (d := d14)
        have T14 : TabV K (hid [a] (upd H13 a (.lst [.int d14]))) (.ref tA) (tabF n1 D1 (sidedM f1 s1)) := by rw [hid_write (by simp)]; exact T13
        have U14 : TabV K (hid [a] (upd H13 a (.lst [.int d14]))) (.ref tB) (tabF n2 D2 (sidedM f2 s2)) := by rw [hid_write (by simp)]; exact U13
        generalize upd H13 a (.lst [.int d14]) = H14 at K14 T14 U14
        obtain ⟨p, rfl⟩ : ∃ p : Nat, rp = (p : Int) := ⟨rp.toNat, by omega⟩
        obtain ⟨o, rfl⟩ : ∃ o : Nat, ro = (o : Int) := ⟨ro.toNat, by omega⟩
        have w1 := sided_up S1 S2.d0 S2.d1
        have w2 := sided_up S2 S1.d0 S1.d1
        have ec : D2 * D1 = D1 * D2 := Int.mul_comm ..
        rw [sided_conv (k := D2) (by have := S1.d0; omega) (by have := S2.d0; omega), ec] at T14
        rw [sided_conv (k := D1) (by have := S2.d0; omega) (by have := S1.d0; omega)] at U14
        have F := hung_facts (p := p) (o := o) S1.sh S2.sh w1.1 w1.2.1 w2.1 w2.2.1 (by omega) (by omega) w2.2.2.1 w2.2.2.2
        have C1 := sided_tabS (n := n1) (s := s1) w1.1 w1.2.1 w2.2.2.1 w2.2.2.2
        have C2 := sided_tabS (n := n2) (s := s2) w2.1 w2.2.1 w2.2.2.1 w2.2.2.2
        refine ⟨[a], .ref tA, .ref tB, n1, n2, p, o, D1 * D2, sidedM (D2 * f1) s1, sidedM (D1 * f2) s2, rfl, K14.live, T14, U14, C1.1, C2.1, by omega, by omega, by omega, by omega, fun rb H15 sm15 hrb => ?_⟩
        rw [rowsH_tab (Met.sided s1 (by omega)) (Met.sided s2 (by omega)) (by omega) (by omega)] at hrb
        have K15 := K14.same sm15
        refine ⟨_, rfl, rb, n1 + (n2 - 1), D1 * D2, _, rfl, mono_tabK K _ _ _ _ hid_sub hrb, F.2.2.1, F.2.2.2, by omega, by omega, F.1.long, F.2.1, fun H16 sm16 => ?_⟩
        refine ⟨_, rfl, iteF ?_⟩
        have K6 := K15.same sm16
        obtain ⟨d6, e6⟩ := K6.2
        generalize H16 = H6 at *
        refine ⟨_, rfl, 10, 20, rfl, rfl, by unfold CPow; decide, by show 2 ≤ sizeLine; decide, fun p6 n6 => ?_⟩
        have K7 := (K6.new (o := .lst [.int 4, .int ((10 : Int) ^ (20 : Int).toNat)]) n6)
        have e7 : (upd H6 p6 (.lst [.int 4, .int ((10 : Int) ^ (20 : Int).toNat)])) p6 = some (.lst [.int 4, .int ((10 : Int) ^ (20 : Int).toNat)]) := upd_same
        have n6a : p6 ≠ a := K6.ne n6
        refine ⟨_, rfl, a, d6, 2, rfl, same_new n6 _ _ e6, by decide, by decide, fun r2 d7 r20 r21 => ?_⟩
        obtain ⟨m, hat2, hm0, hm1⟩ : ∃ m : Int, atI [V.int 4, V.int ((10 : Int) ^ (20 : Int).toNat)] r2 = some (.int m) ∧ 0 < m ∧ m ≤ 10 ^ 20 := by
          have hr2 : r2 = 0 ∨ r2 = 1 := by omega
          rcases hr2 with rfl | rfl
          · exact ⟨4, rfl, by omega, by decide⟩
          · exact ⟨_, rfl, by decide, by decide⟩
        refine ⟨p6, _, r2, _, rfl, rfl, .of (by rw [upd_ne n6a]; exact e7), hat2, ?_⟩
        have K8 := K7.take (d := d7)
        have e8 := upd_same (H := upd H6 p6 (.lst [.int 4, .int ((10 : Int) ^ (20 : Int).toNat)])) (a := a) (o := .lst [.int d7])
        generalize upd (upd H6 p6 (.lst [.int 4, .int ((10 : Int) ^ (20 : Int).toNat)])) a (.lst [.int d7]) = H8 at K8 e8
        have hmS : Sm 8000 m := sm_up (a := 80) (by decide) (sm_of (by omega) (Int.lt_of_le_of_lt hm1 (by decide)))
        refine ⟨a, d7, m, rfl, e8, hm0, hmS, fun r3 d8 r30 r31 => ?_⟩
        have K9 := K8.take (d := d8)
        refine ⟨1, r3, rfl, rfl, ?_⟩
        refine ⟨_, rfl, a, d8, 7, rfl, upd_same, by decide, by decide, fun r4 d9 r40 r41 => ?_⟩
        have K10 := K9.take (d := d9)
        have e10 := upd_same (H := upd H8 a (.lst [.int d8])) (a := a) (o := .lst [.int d9])
        generalize upd (upd H8 a (.lst [.int d8])) a (.lst [.int d9]) = H10 at K10 e10
        refine ⟨1, r4, rfl, rfl, ?_⟩
        refine ⟨[a], 1 + r3, 1 + r4, rfl, K10.live, by omega, sm_up (a := 10) (by decide) (by show _ < 2 ^ 10; omega), fun v H11 sm11 hv => ?_⟩
        have K11 := K10.same sm11
        refine ⟨_, rfl, a, d9, 6, rfl, sm11 _ _ e10, by decide, by decide, fun r5 d12 r50 r51 => ?_⟩
        have K12 := K11.take (d := d12)
        obtain ⟨z, rfl⟩ : ∃ z : Nat, r5 = (z : Int) := ⟨r5.toNat, by omega⟩
        have hz : (2 : Int) + (z : Int) = ((2 + z : Nat) : Int) := by omega
        refine ⟨2, _, rfl, rfl, _, rfl, v, 2 + z, 1 + r3, 1 + r4, by rw [← hz]; rfl, ?_, by omega, by omega, by omega, by omega, by omega, by omega, fun H13 sm13 => ?_⟩
        · refine mono_frK K _ _ _ _ (hid_sub (l := [a])) ?_
          rw [hid_write (by simp)]
          exact hv
        refine ⟨_, rfl, iteF ⟨_, _, _, _, _, _, rfl, back _ (K12.same sm13)⟩⟩
      · rw [show decide (((n1 : Nat) : Int) + ((n2 : Nat) : Int) < 11) = false from decide_eq_false (by omega)]
        refine iteF ?_
        have H6e : H5 = H5 := rfl
        obtain ⟨d6, e6⟩ := K6.2
        generalize H5 = H6 at *
        refine ⟨_, rfl, 10, 20, rfl, rfl, by unfold CPow; decide, by show 2 ≤ sizeLine; decide, fun p6 n6 => ?_⟩
        have K7 := (K6.new (o := .lst [.int 4, .int ((10 : Int) ^ (20 : Int).toNat)]) n6)
        have e7 : (upd H6 p6 (.lst [.int 4, .int ((10 : Int) ^ (20 : Int).toNat)])) p6 = some (.lst [.int 4, .int ((10 : Int) ^ (20 : Int).toNat)]) := upd_same
        have n6a : p6 ≠ a := K6.ne n6
        refine ⟨_, rfl, a, d6, 2, rfl, same_new n6 _ _ e6, by decide, by decide, fun r2 d7 r20 r21 => ?_⟩
        obtain ⟨m, hat2, hm0, hm1⟩ : ∃ m : Int, atI [V.int 4, V.int ((10 : Int) ^ (20 : Int).toNat)] r2 = some (.int m) ∧ 0 < m ∧ m ≤ 10 ^ 20 := by
          have hr2 : r2 = 0 ∨ r2 = 1 := by omega
          rcases hr2 with rfl | rfl
          · exact ⟨4, rfl, by omega, by decide⟩
          · exact ⟨_, rfl, by decide, by decide⟩
        refine ⟨p6, _, r2, _, rfl, rfl, .of (by rw [upd_ne n6a]; exact e7), hat2, ?_⟩
        have K8 := K7.take (d := d7)
        have e8 := upd_same (H := upd H6 p6 (.lst [.int 4, .int ((10 : Int) ^ (20 : Int).toNat)])) (a := a) (o := .lst [.int d7])
        generalize upd (upd H6 p6 (.lst [.int 4, .int ((10 : Int) ^ (20 : Int).toNat)])) a (.lst [.int d7]) = H8 at K8 e8
        have hmS : Sm 8000 m := sm_up (a := 80) (by decide) (sm_of (by omega) (Int.lt_of_le_of_lt hm1 (by decide)))
        refine ⟨a, d7, m, rfl, e8, hm0, hmS, fun r3 d8 r30 r31 => ?_⟩
        have K9 := K8.take (d := d8)
        refine ⟨1, r3, rfl, rfl, ?_⟩
        refine ⟨_, rfl, a, d8, 7, rfl, upd_same, by decide, by decide, fun r4 d9 r40 r41 => ?_⟩
        have K10 := K9.take (d := d9)
        have e10 := upd_same (H := upd H8 a (.lst [.int d8])) (a := a) (o := .lst [.int d9])
        generalize upd (upd H8 a (.lst [.int d8])) a (.lst [.int d9]) = H10 at K10 e10
        refine ⟨1, r4, rfl, rfl, ?_⟩
        refine ⟨[a], 1 + r3, 1 + r4, rfl, K10.live, by omega, sm_up (a := 10) (by decide) (by show _ < 2 ^ 10; omega), fun v H11 sm11 hv => ?_⟩
        have K11 := K10.same sm11
        refine ⟨_, rfl, a, d9, 6, rfl, sm11 _ _ e10, by decide, by decide, fun r5 d12 r50 r51 => ?_⟩
        have K12 := K11.take (d := d12)
        obtain ⟨z, rfl⟩ : ∃ z : Nat, r5 = (z : Int) := ⟨r5.toNat, by omega⟩
        have hz : (2 : Int) + (z : Int) = ((2 + z : Nat) : Int) := by omega
        refine ⟨2, _, rfl, rfl, _, rfl, v, 2 + z, 1 + r3, 1 + r4, by rw [← hz]; rfl, ?_, by omega, by omega, by omega, by omega, by omega, by omega, fun H13 sm13 => ?_⟩
        · refine mono_frK K _ _ _ _ (hid_sub (l := [a])) ?_
          rw [hid_write (by simp)]
          exact hv
        refine ⟨_, rfl, iteF ⟨_, _, _, _, _, _, rfl, back _ (K12.same sm13)⟩⟩
    · exact q _
end
end K57
end

section
set_option Elab.async false
set_option linter.all false
set_option maxRecDepth 100000
set_option maxHeartbeats 4000000
set_option exponentiation.threshold 10000
namespace K57
open PySem PySem.Spec PyProof.Rows L2
/-! ### what the top has written -/
def pick {α : Type} : List α → Nat → α → α
  | [], _, d => d
  | x :: _, 0, _ => x
  | _ :: l, n + 1, d => pick l n d
theorem dn_mk {K : PySem.W.Frag} {mg : Str → Option Value} {x : Str} {st : Stmt} {ps : List Str} {f : Addr} {oc : Value} {od an : Option Addr} {osl : Array (Option Value)} {kV dc pm cdv ct : Value}
    (l : K.lookup f = some ⟨oc, od, .func (PySem.W.fnOf x x (defArgs st) (defBody st) (defScope st) .none kV dc pm an cdv ct), osl⟩) (c : PySem.W.codeIn K cdv x = true) (k : PySem.W.keepIn K (.ref f) = true) (g : mg x = some (.ref f))
    (b : ∀ F : Fun K x x st f (PySem.W.fnOf x x (defArgs st) (defBody st) (defScope st) .none kV dc pm an cdv ct), Binds K (PySem.W.fnOf x x (defArgs st) (defBody st) (defScope st) .none kV dc pm an cdv ct) ps []) :
    Dn K mg x st ps f (PySem.W.fnOf x x (defArgs st) (defBody st) (defScope st) .none kV dc pm an cdv ct) := ⟨fun_mk l c k, b (fun_mk l c k), g⟩
theorem all_mk {l : PySem.W.OpenLaw} {w : World} {K : PySem.W.Frag} {h : Heap} {mg : Str → Option Value} {fa : Addr} (X : K.In h) (G : h.Ns mainGlobals mg) (hfa : mg "law" = some (.ref fa))
    {f6 f7 f8 f9 f10 f12 f13 f14 f15 f18 f20 f21 f22 f23 f24 f25 f26 f28 f29 f30 f31 f32 f33 f34 f35 f36 f37 : Addr} {od6 an6 od7 an7 od8 an8 od9 an9 od10 an10 od12 an12 od13 an13 od14 an14 od15 an15 od18 an18 od20 an20 od21 an21 od22 an22 od23 an23 od24 an24 od25 an25 od26 an26 od28 an28 od29 an29 od30 an30 od31 an31 od32 an32 od33 an33 od34 an34 od35 an35 od36 an36 od37 an37 : Option Addr} {sl6 sl7 sl8 sl9 sl10 sl12 sl13 sl14 sl15 sl18 sl20 sl21 sl22 sl23 sl24 sl25 sl26 sl28 sl29 sl30 sl31 sl32 sl33 sl34 sl35 sl36 sl37 : Array (Option Value)}
    {oc6 kV6 dc6 pm6 cd6 ct6 oc7 kV7 dc7 pm7 cd7 ct7 oc8 kV8 dc8 pm8 cd8 ct8 oc9 kV9 dc9 pm9 cd9 ct9 oc10 kV10 dc10 pm10 cd10 ct10 oc12 kV12 dc12 pm12 cd12 ct12 oc13 kV13 dc13 pm13 cd13 ct13 oc14 kV14 dc14 pm14 cd14 ct14 oc15 kV15 dc15 pm15 cd15 ct15 oc18 kV18 dc18 pm18 cd18 ct18 oc20 kV20 dc20 pm20 cd20 ct20 oc21 kV21 dc21 pm21 cd21 ct21 oc22 kV22 dc22 pm22 cd22 ct22 oc23 kV23 dc23 pm23 cd23 ct23 oc24 kV24 dc24 pm24 cd24 ct24 oc25 kV25 dc25 pm25 cd25 ct25 oc26 kV26 dc26 pm26 cd26 ct26 oc28 kV28 dc28 pm28 cd28 ct28 oc29 kV29 dc29 pm29 cd29 ct29 oc30 kV30 dc30 pm30 cd30 ct30 oc31 kV31 dc31 pm31 cd31 ct31 oc32 kV32 dc32 pm32 cd32 ct32 oc33 kV33 dc33 pm33 cd33 ct33 oc34 kV34 dc34 pm34 cd34 ct34 oc35 kV35 dc35 pm35 cd35 ct35 oc36 kV36 dc36 pm36 cd36 ct36 oc37 kV37 dc37 pm37 cd37 ct37 : Value} {tN : Addr} {odN : Option Addr} {nN : Nat} {slN : Array (Option Value)} {t0 t1 : Tok}
    (a6 : PySem.W.nsIn K mainGlobals "common_of" = some (some (.ref f6))) (l6 : K.lookup f6 = some ⟨oc6, od6, .func (PySem.W.fnOf "common_of" "common_of" (defArgs (top 6)) (defBody (top 6)) (defScope (top 6)) .none kV6 dc6 pm6 an6 cd6 ct6), sl6⟩) (c6 : PySem.W.codeIn K cd6 "common_of" = true) (k6 : PySem.W.keepIn K (.ref f6) = true)
    (a7 : PySem.W.nsIn K mainGlobals "fraction" = some (some (.ref f7))) (l7 : K.lookup f7 = some ⟨oc7, od7, .func (PySem.W.fnOf "fraction" "fraction" (defArgs (top 7)) (defBody (top 7)) (defScope (top 7)) .none kV7 dc7 pm7 an7 cd7 ct7), sl7⟩) (c7 : PySem.W.codeIn K cd7 "fraction" = true) (k7 : PySem.W.keepIn K (.ref f7) = true)
    (a8 : PySem.W.nsIn K mainGlobals "plus" = some (some (.ref f8))) (l8 : K.lookup f8 = some ⟨oc8, od8, .func (PySem.W.fnOf "plus" "plus" (defArgs (top 8)) (defBody (top 8)) (defScope (top 8)) .none kV8 dc8 pm8 an8 cd8 ct8), sl8⟩) (c8 : PySem.W.codeIn K cd8 "plus" = true) (k8 : PySem.W.keepIn K (.ref f8) = true)
    (a9 : PySem.W.nsIn K mainGlobals "minus" = some (some (.ref f9))) (l9 : K.lookup f9 = some ⟨oc9, od9, .func (PySem.W.fnOf "minus" "minus" (defArgs (top 9)) (defBody (top 9)) (defScope (top 9)) .none kV9 dc9 pm9 an9 cd9 ct9), sl9⟩) (c9 : PySem.W.codeIn K cd9 "minus" = true) (k9 : PySem.W.keepIn K (.ref f9) = true)
    (a10 : PySem.W.nsIn K mainGlobals "is_below" = some (some (.ref f10))) (l10 : K.lookup f10 = some ⟨oc10, od10, .func (PySem.W.fnOf "is_below" "is_below" (defArgs (top 10)) (defBody (top 10)) (defScope (top 10)) .none kV10 dc10 pm10 an10 cd10 ct10), sl10⟩) (c10 : PySem.W.codeIn K cd10 "is_below" = true) (k10 : PySem.W.keepIn K (.ref f10) = true)
    (a12 : PySem.W.nsIn K mainGlobals "first_short" = some (some (.ref f12))) (l12 : K.lookup f12 = some ⟨oc12, od12, .func (PySem.W.fnOf "first_short" "first_short" (defArgs (top 12)) (defBody (top 12)) (defScope (top 12)) .none kV12 dc12 pm12 an12 cd12 ct12), sl12⟩) (c12 : PySem.W.codeIn K cd12 "first_short" = true) (k12 : PySem.W.keepIn K (.ref f12) = true)
    (a13 : PySem.W.nsIn K mainGlobals "part_of" = some (some (.ref f13))) (l13 : K.lookup f13 = some ⟨oc13, od13, .func (PySem.W.fnOf "part_of" "part_of" (defArgs (top 13)) (defBody (top 13)) (defScope (top 13)) .none kV13 dc13 pm13 an13 cd13 ct13), sl13⟩) (c13 : PySem.W.codeIn K cd13 "part_of" = true) (k13 : PySem.W.keepIn K (.ref f13) = true)
    (a14 : PySem.W.nsIn K mainGlobals "added" = some (some (.ref f14))) (l14 : K.lookup f14 = some ⟨oc14, od14, .func (PySem.W.fnOf "added" "added" (defArgs (top 14)) (defBody (top 14)) (defScope (top 14)) .none kV14 dc14 pm14 an14 cd14 ct14), sl14⟩) (c14 : PySem.W.codeIn K cd14 "added" = true) (k14 : PySem.W.keepIn K (.ref f14) = true)
    (a15 : PySem.W.nsIn K mainGlobals "hung_together" = some (some (.ref f15))) (l15 : K.lookup f15 = some ⟨oc15, od15, .func (PySem.W.fnOf "hung_together" "hung_together" (defArgs (top 15)) (defBody (top 15)) (defScope (top 15)) .none kV15 dc15 pm15 an15 cd15 ct15), sl15⟩) (c15 : PySem.W.codeIn K cd15 "hung_together" = true) (k15 : PySem.W.keepIn K (.ref f15) = true)
    (a18 : PySem.W.nsIn K mainGlobals "table_of" = some (some (.ref f18))) (l18 : K.lookup f18 = some ⟨oc18, od18, .func (PySem.W.fnOf "table_of" "table_of" (defArgs (top 18)) (defBody (top 18)) (defScope (top 18)) .none kV18 dc18 pm18 an18 cd18 ct18), sl18⟩) (c18 : PySem.W.codeIn K cd18 "table_of" = true) (k18 : PySem.W.keepIn K (.ref f18) = true)
    (a20 : PySem.W.nsIn K mainGlobals "need_long" = some (some (.ref f20))) (l20 : K.lookup f20 = some ⟨oc20, od20, .func (PySem.W.fnOf "need_long" "need_long" (defArgs (top 20)) (defBody (top 20)) (defScope (top 20)) .none kV20 dc20 pm20 an20 cd20 ct20), sl20⟩) (c20 : PySem.W.codeIn K cd20 "need_long" = true) (k20 : PySem.W.keepIn K (.ref f20) = true)
    (a21 : PySem.W.nsIn K mainGlobals "in_wholes" = some (some (.ref f21))) (l21 : K.lookup f21 = some ⟨oc21, od21, .func (PySem.W.fnOf "in_wholes" "in_wholes" (defArgs (top 21)) (defBody (top 21)) (defScope (top 21)) .none kV21 dc21 pm21 an21 cd21 ct21), sl21⟩) (c21 : PySem.W.codeIn K cd21 "in_wholes" = true) (k21 : PySem.W.keepIn K (.ref f21) = true)
    (a22 : PySem.W.nsIn K mainGlobals "pairs_of" = some (some (.ref f22))) (l22 : K.lookup f22 = some ⟨oc22, od22, .func (PySem.W.fnOf "pairs_of" "pairs_of" (defArgs (top 22)) (defBody (top 22)) (defScope (top 22)) .none kV22 dc22 pm22 an22 cd22 ct22), sl22⟩) (c22 : PySem.W.codeIn K cd22 "pairs_of" = true) (k22 : PySem.W.keepIn K (.ref f22) = true)
    (a23 : PySem.W.nsIn K mainGlobals "least_over" = some (some (.ref f23))) (l23 : K.lookup f23 = some ⟨oc23, od23, .func (PySem.W.fnOf "least_over" "least_over" (defArgs (top 23)) (defBody (top 23)) (defScope (top 23)) .none kV23 dc23 pm23 an23 cd23 ct23), sl23⟩) (c23 : PySem.W.codeIn K cd23 "least_over" = true) (k23 : PySem.W.keepIn K (.ref f23) = true)
    (a24 : PySem.W.nsIn K mainGlobals "beside_of" = some (some (.ref f24))) (l24 : K.lookup f24 = some ⟨oc24, od24, .func (PySem.W.fnOf "beside_of" "beside_of" (defArgs (top 24)) (defBody (top 24)) (defScope (top 24)) .none kV24 dc24 pm24 an24 cd24 ct24), sl24⟩) (c24 : PySem.W.codeIn K cd24 "beside_of" = true) (k24 : PySem.W.keepIn K (.ref f24) = true)
    (a25 : PySem.W.nsIn K mainGlobals "splits_of" = some (some (.ref f25))) (l25 : K.lookup f25 = some ⟨oc25, od25, .func (PySem.W.fnOf "splits_of" "splits_of" (defArgs (top 25)) (defBody (top 25)) (defScope (top 25)) .none kV25 dc25 pm25 an25 cd25 ct25), sl25⟩) (c25 : PySem.W.codeIn K cd25 "splits_of" = true) (k25 : PySem.W.keepIn K (.ref f25) = true)
    (a26 : PySem.W.nsIn K mainGlobals "rest_table" = some (some (.ref f26))) (l26 : K.lookup f26 = some ⟨oc26, od26, .func (PySem.W.fnOf "rest_table" "rest_table" (defArgs (top 26)) (defBody (top 26)) (defScope (top 26)) .none kV26 dc26 pm26 an26 cd26 ct26), sl26⟩) (c26 : PySem.W.codeIn K cd26 "rest_table" = true) (k26 : PySem.W.keepIn K (.ref f26) = true)
    (a28 : PySem.W.nsIn K mainGlobals "_law_stir" = some (some (.ref f28))) (l28 : K.lookup f28 = some ⟨oc28, od28, .func (PySem.W.fnOf "_law_stir" "_law_stir" (defArgs (top 28)) (defBody (top 28)) (defScope (top 28)) .none kV28 dc28 pm28 an28 cd28 ct28), sl28⟩) (c28 : PySem.W.codeIn K cd28 "_law_stir" = true) (k28 : PySem.W.keepIn K (.ref f28) = true)
    (a29 : PySem.W.nsIn K mainGlobals "_law_deck" = some (some (.ref f29))) (l29 : K.lookup f29 = some ⟨oc29, od29, .func (PySem.W.fnOf "_law_deck" "_law_deck" (defArgs (top 29)) (defBody (top 29)) (defScope (top 29)) .none kV29 dc29 pm29 an29 cd29 ct29), sl29⟩) (c29 : PySem.W.codeIn K cd29 "_law_deck" = true) (k29 : PySem.W.keepIn K (.ref f29) = true)
    (a30 : PySem.W.nsIn K mainGlobals "_law_take" = some (some (.ref f30))) (l30 : K.lookup f30 = some ⟨oc30, od30, .func (PySem.W.fnOf "_law_take" "_law_take" (defArgs (top 30)) (defBody (top 30)) (defScope (top 30)) .none kV30 dc30 pm30 an30 cd30 ct30), sl30⟩) (c30 : PySem.W.codeIn K cd30 "_law_take" = true) (k30 : PySem.W.keepIn K (.ref f30) = true)
    (a31 : PySem.W.nsIn K mainGlobals "_law_fraction" = some (some (.ref f31))) (l31 : K.lookup f31 = some ⟨oc31, od31, .func (PySem.W.fnOf "_law_fraction" "_law_fraction" (defArgs (top 31)) (defBody (top 31)) (defScope (top 31)) .none kV31 dc31 pm31 an31 cd31 ct31), sl31⟩) (c31 : PySem.W.codeIn K cd31 "_law_fraction" = true) (k31 : PySem.W.keepIn K (.ref f31) = true)
    (a32 : PySem.W.nsIn K mainGlobals "_law_table" = some (some (.ref f32))) (l32 : K.lookup f32 = some ⟨oc32, od32, .func (PySem.W.fnOf "_law_table" "_law_table" (defArgs (top 32)) (defBody (top 32)) (defScope (top 32)) .none kV32 dc32 pm32 an32 cd32 ct32), sl32⟩) (c32 : PySem.W.codeIn K cd32 "_law_table" = true) (k32 : PySem.W.keepIn K (.ref f32) = true)
    (a33 : PySem.W.nsIn K mainGlobals "_law_sided" = some (some (.ref f33))) (l33 : K.lookup f33 = some ⟨oc33, od33, .func (PySem.W.fnOf "_law_sided" "_law_sided" (defArgs (top 33)) (defBody (top 33)) (defScope (top 33)) .none kV33 dc33 pm33 an33 cd33 ct33), sl33⟩) (c33 : PySem.W.codeIn K cd33 "_law_sided" = true) (k33 : PySem.W.keepIn K (.ref f33) = true)
    (a34 : PySem.W.nsIn K mainGlobals "_law_is_bare" = some (some (.ref f34))) (l34 : K.lookup f34 = some ⟨oc34, od34, .func (PySem.W.fnOf "_law_is_bare" "_law_is_bare" (defArgs (top 34)) (defBody (top 34)) (defScope (top 34)) .none kV34 dc34 pm34 an34 cd34 ct34), sl34⟩) (c34 : PySem.W.codeIn K cd34 "_law_is_bare" = true) (k34 : PySem.W.keepIn K (.ref f34) = true)
    (a35 : PySem.W.nsIn K mainGlobals "_law_is_even" = some (some (.ref f35))) (l35 : K.lookup f35 = some ⟨oc35, od35, .func (PySem.W.fnOf "_law_is_even" "_law_is_even" (defArgs (top 35)) (defBody (top 35)) (defScope (top 35)) .none kV35 dc35 pm35 an35 cd35 ct35), sl35⟩) (c35 : PySem.W.codeIn K cd35 "_law_is_even" = true) (k35 : PySem.W.keepIn K (.ref f35) = true)
    (a36 : PySem.W.nsIn K mainGlobals "_law_with_ends" = some (some (.ref f36))) (l36 : K.lookup f36 = some ⟨oc36, od36, .func (PySem.W.fnOf "_law_with_ends" "_law_with_ends" (defArgs (top 36)) (defBody (top 36)) (defScope (top 36)) .none kV36 dc36 pm36 an36 cd36 ct36), sl36⟩) (c36 : PySem.W.codeIn K cd36 "_law_with_ends" = true) (k36 : PySem.W.keepIn K (.ref f36) = true)
    (a37 : PySem.W.nsIn K mainGlobals "law" = some (some (.ref f37))) (l37 : K.lookup f37 = some ⟨oc37, od37, .func (PySem.W.fnOf "law" "law" (defArgs (top 37)) (defBody (top 37)) (defScope (top 37)) .none kV37 dc37 pm37 an37 cd37 ct37), sl37⟩) (c37 : PySem.W.codeIn K cd37 "law" = true) (k37 : PySem.W.keepIn K (.ref f37) = true)
    (aN : PySem.W.nsIn K mainGlobals "NOUGHT" = some (some (.ref tN))) (lN : K.lookup tN = some ⟨.type "tuple", odN, .seq #[.int 0 t0, .int 1 t1] nN, slN⟩)
    (z0 : PySem.W.nsIn K mainGlobals "abs" = some none) (z1 : PySem.W.nsIn K mainGlobals "len" = some none) (z2 : PySem.W.nsIn K mainGlobals "range" = some none) (z3 : PySem.W.nsIn K mainGlobals "set" = some none) (z4 : PySem.W.nsIn K mainGlobals "zip" = some none) (z5 : PySem.W.nsIn K mainGlobals "max" = some none) (z6 : PySem.W.nsIn K mainGlobals "sorted" = some none) (z7 : PySem.W.nsIn K mainGlobals "int" = some none) (z8 : PySem.W.nsIn K mainGlobals "list" = some none) :
    ∃ fd : FuncData, (∀ (s : Shared) (v : Value), BindsTo s fd ⟨[v], []⟩ [("script", v)]) ∧ ∀ base : Heap, K.In base → base.Ns mainGlobals mg → FnOk l.prog w K mg base CX0 9 fa fd ["script"] (spLaw (K := K)) := by
  have e : f37 = fa := by
    have e := hfa.symm.trans (PySem.W.mg_of X G a37)
    cases e
    rfl
  subst e
  have D6 : Dn K mg "common_of" (top 6) ["one", "other"] f6 (PySem.W.fnOf "common_of" "common_of" (defArgs (top 6)) (defBody (top 6)) (defScope (top 6)) .none kV6 dc6 pm6 an6 cd6 ct6) := dn_mk l6 c6 k6 (PySem.W.mg_of X G a6) fun F => F.binds (ps := ["one", "other"]) fun _ _ _ _ _ _ us hl => match us, hl with | [_, _], _ => rfl
  have D7 : Dn K mg "fraction" (top 7) ["top", "bottom"] f7 (PySem.W.fnOf "fraction" "fraction" (defArgs (top 7)) (defBody (top 7)) (defScope (top 7)) .none kV7 dc7 pm7 an7 cd7 ct7) := dn_mk l7 c7 k7 (PySem.W.mg_of X G a7) fun F => F.binds (ps := ["top", "bottom"]) fun _ _ _ _ _ _ us hl => match us, hl with | [_, _], _ => rfl
  have D8 : Dn K mg "plus" (top 8) ["q", "r"] f8 (PySem.W.fnOf "plus" "plus" (defArgs (top 8)) (defBody (top 8)) (defScope (top 8)) .none kV8 dc8 pm8 an8 cd8 ct8) := dn_mk l8 c8 k8 (PySem.W.mg_of X G a8) fun F => F.binds (ps := ["q", "r"]) fun _ _ _ _ _ _ us hl => match us, hl with | [_, _], _ => rfl
  have D9 : Dn K mg "minus" (top 9) ["q", "r"] f9 (PySem.W.fnOf "minus" "minus" (defArgs (top 9)) (defBody (top 9)) (defScope (top 9)) .none kV9 dc9 pm9 an9 cd9 ct9) := dn_mk l9 c9 k9 (PySem.W.mg_of X G a9) fun F => F.binds (ps := ["q", "r"]) fun _ _ _ _ _ _ us hl => match us, hl with | [_, _], _ => rfl
  have D10 : Dn K mg "is_below" (top 10) ["q", "r"] f10 (PySem.W.fnOf "is_below" "is_below" (defArgs (top 10)) (defBody (top 10)) (defScope (top 10)) .none kV10 dc10 pm10 an10 cd10 ct10) := dn_mk l10 c10 k10 (PySem.W.mg_of X G a10) fun F => F.binds (ps := ["q", "r"]) fun _ _ _ _ _ _ us hl => match us, hl with | [_, _], _ => rfl
  have D12 : Dn K mg "first_short" (top 12) ["table"] f12 (PySem.W.fnOf "first_short" "first_short" (defArgs (top 12)) (defBody (top 12)) (defScope (top 12)) .none kV12 dc12 pm12 an12 cd12 ct12) := dn_mk l12 c12 k12 (PySem.W.mg_of X G a12) fun F => F.binds (ps := ["table"]) fun _ _ _ _ _ _ us hl => match us, hl with | [_], _ => rfl
  have D13 : Dn K mg "part_of" (top 13) ["table", "points"] f13 (PySem.W.fnOf "part_of" "part_of" (defArgs (top 13)) (defBody (top 13)) (defScope (top 13)) .none kV13 dc13 pm13 an13 cd13 ct13) := dn_mk l13 c13 k13 (PySem.W.mg_of X G a13) fun F => F.binds (ps := ["table", "points"]) fun _ _ _ _ _ _ us hl => match us, hl with | [_, _], _ => rfl
  have D14 : Dn K mg "added" (top 14) ["table", "other"] f14 (PySem.W.fnOf "added" "added" (defArgs (top 14)) (defBody (top 14)) (defScope (top 14)) .none kV14 dc14 pm14 an14 cd14 ct14) := dn_mk l14 c14 k14 (PySem.W.mg_of X G a14) fun F => F.binds (ps := ["table", "other"]) fun _ _ _ _ _ _ us hl => match us, hl with | [_, _], _ => rfl
  have D15 : Dn K mg "hung_together" (top 15) ["table", "point", "other", "other_point"] f15 (PySem.W.fnOf "hung_together" "hung_together" (defArgs (top 15)) (defBody (top 15)) (defScope (top 15)) .none kV15 dc15 pm15 an15 cd15 ct15) := dn_mk l15 c15 k15 (PySem.W.mg_of X G a15) fun F => F.binds (ps := ["table", "point", "other", "other_point"]) fun _ _ _ _ _ _ us hl => match us, hl with | [_, _, _, _], _ => rfl
  have D18 : Dn K mg "table_of" (top 18) ["n", "cuts"] f18 (PySem.W.fnOf "table_of" "table_of" (defArgs (top 18)) (defBody (top 18)) (defScope (top 18)) .none kV18 dc18 pm18 an18 cd18 ct18) := dn_mk l18 c18 k18 (PySem.W.mg_of X G a18) fun F => F.binds (ps := ["n", "cuts"]) fun _ _ _ _ _ _ us hl => match us, hl with | [_, _], _ => rfl
  have D20 : Dn K mg "need_long" (top 20) ["table"] f20 (PySem.W.fnOf "need_long" "need_long" (defArgs (top 20)) (defBody (top 20)) (defScope (top 20)) .none kV20 dc20 pm20 an20 cd20 ct20) := dn_mk l20 c20 k20 (PySem.W.mg_of X G a20) fun F => F.binds (ps := ["table"]) fun _ _ _ _ _ _ us hl => match us, hl with | [_], _ => rfl
  have D21 : Dn K mg "in_wholes" (top 21) ["table"] f21 (PySem.W.fnOf "in_wholes" "in_wholes" (defArgs (top 21)) (defBody (top 21)) (defScope (top 21)) .none kV21 dc21 pm21 an21 cd21 ct21) := dn_mk l21 c21 k21 (PySem.W.mg_of X G a21) fun F => F.binds (ps := ["table"]) fun _ _ _ _ _ _ us hl => match us, hl with | [_], _ => rfl
  have D22 : Dn K mg "pairs_of" (top 22) ["points"] f22 (PySem.W.fnOf "pairs_of" "pairs_of" (defArgs (top 22)) (defBody (top 22)) (defScope (top 22)) .none kV22 dc22 pm22 an22 cd22 ct22) := dn_mk l22 c22 k22 (PySem.W.mg_of X G a22) fun F => F.binds (ps := ["points"]) fun _ _ _ _ _ _ us hl => match us, hl with | [_], _ => rfl
  have D23 : Dn K mg "least_over" (top 23) ["rows", "side", "others"] f23 (PySem.W.fnOf "least_over" "least_over" (defArgs (top 23)) (defBody (top 23)) (defScope (top 23)) .none kV23 dc23 pm23 an23 cd23 ct23) := dn_mk l23 c23 k23 (PySem.W.mg_of X G a23) fun F => F.binds (ps := ["rows", "side", "others"]) fun _ _ _ _ _ _ us hl => match us, hl with | [_, _, _], _ => rfl
  have D24 : Dn K mg "beside_of" (top 24) ["side", "n"] f24 (PySem.W.fnOf "beside_of" "beside_of" (defArgs (top 24)) (defBody (top 24)) (defScope (top 24)) .none kV24 dc24 pm24 an24 cd24 ct24) := dn_mk l24 c24 k24 (PySem.W.mg_of X G a24) fun F => F.binds (ps := ["side", "n"]) fun _ _ _ _ _ _ us hl => match us, hl with | [_, _], _ => rfl
  have D25 : Dn K mg "splits_of" (top 25) ["table"] f25 (PySem.W.fnOf "splits_of" "splits_of" (defArgs (top 25)) (defBody (top 25)) (defScope (top 25)) .none kV25 dc25 pm25 an25 cd25 ct25) := dn_mk l25 c25 k25 (PySem.W.mg_of X G a25) fun F => F.binds (ps := ["table"]) fun _ _ _ _ _ _ us hl => match us, hl with | [_], _ => rfl
  have D26 : Dn K mg "rest_table" (top 26) ["table"] f26 (PySem.W.fnOf "rest_table" "rest_table" (defArgs (top 26)) (defBody (top 26)) (defScope (top 26)) .none kV26 dc26 pm26 an26 cd26 ct26) := dn_mk l26 c26 k26 (PySem.W.mg_of X G a26) fun F => F.binds (ps := ["table"]) fun _ _ _ _ _ _ us hl => match us, hl with | [_], _ => rfl
  have D28 : Dn K mg "_law_stir" (top 28) ["cell", "k"] f28 (PySem.W.fnOf "_law_stir" "_law_stir" (defArgs (top 28)) (defBody (top 28)) (defScope (top 28)) .none kV28 dc28 pm28 an28 cd28 ct28) := dn_mk l28 c28 k28 (PySem.W.mg_of X G a28) fun F => F.binds (ps := ["cell", "k"]) fun _ _ _ _ _ _ us hl => match us, hl with | [_, _], _ => rfl
  have D29 : Dn K mg "_law_deck" (top 29) ["cell"] f29 (PySem.W.fnOf "_law_deck" "_law_deck" (defArgs (top 29)) (defBody (top 29)) (defScope (top 29)) .none kV29 dc29 pm29 an29 cd29 ct29) := dn_mk l29 c29 k29 (PySem.W.mg_of X G a29) fun F => F.binds (ps := ["cell"]) fun _ _ _ _ _ _ us hl => match us, hl with | [_], _ => rfl
  have D30 : Dn K mg "_law_take" (top 30) ["deck", "many"] f30 (PySem.W.fnOf "_law_take" "_law_take" (defArgs (top 30)) (defBody (top 30)) (defScope (top 30)) .none kV30 dc30 pm30 an30 cd30 ct30) := dn_mk l30 c30 k30 (PySem.W.mg_of X G a30) fun F => F.binds (ps := ["deck", "many"]) fun _ _ _ _ _ _ us hl => match us, hl with | [_, _], _ => rfl
  have D31 : Dn K mg "_law_fraction" (top 31) ["top", "bottom"] f31 (PySem.W.fnOf "_law_fraction" "_law_fraction" (defArgs (top 31)) (defBody (top 31)) (defScope (top 31)) .none kV31 dc31 pm31 an31 cd31 ct31) := dn_mk l31 c31 k31 (PySem.W.mg_of X G a31) fun F => F.binds (ps := ["top", "bottom"]) fun _ _ _ _ _ _ us hl => match us, hl with | [_, _], _ => rfl
  have D32 : Dn K mg "_law_table" (top 32) ["rows", "bottom"] f32 (PySem.W.fnOf "_law_table" "_law_table" (defArgs (top 32)) (defBody (top 32)) (defScope (top 32)) .none kV32 dc32 pm32 an32 cd32 ct32) := dn_mk l32 c32 k32 (PySem.W.mg_of X G a32) fun F => F.binds (ps := ["rows", "bottom"]) fun _ _ _ _ _ _ us hl => match us, hl with | [_, _], _ => rfl
  have D33 : Dn K mg "_law_sided" (top 33) ["deck"] f33 (PySem.W.fnOf "_law_sided" "_law_sided" (defArgs (top 33)) (defBody (top 33)) (defScope (top 33)) .none kV33 dc33 pm33 an33 cd33 ct33) := dn_mk l33 c33 k33 (PySem.W.mg_of X G a33) fun F => F.binds (ps := ["deck"]) fun _ _ _ _ _ _ us hl => match us, hl with | [_], _ => rfl
  have D34 : Dn K mg "_law_is_bare" (top 34) ["table"] f34 (PySem.W.fnOf "_law_is_bare" "_law_is_bare" (defArgs (top 34)) (defBody (top 34)) (defScope (top 34)) .none kV34 dc34 pm34 an34 cd34 ct34) := dn_mk l34 c34 k34 (PySem.W.mg_of X G a34) fun F => F.binds (ps := ["table"]) fun _ _ _ _ _ _ us hl => match us, hl with | [_], _ => rfl
  have D35 : Dn K mg "_law_is_even" (top 35) ["n", "far"] f35 (PySem.W.fnOf "_law_is_even" "_law_is_even" (defArgs (top 35)) (defBody (top 35)) (defScope (top 35)) .none kV35 dc35 pm35 an35 cd35 ct35) := dn_mk l35 c35 k35 (PySem.W.mg_of X G a35) fun F => F.binds (ps := ["n", "far"]) fun _ _ _ _ _ _ us hl => match us, hl with | [_, _], _ => rfl
  have D36 : Dn K mg "_law_with_ends" (top 36) ["deck", "table"] f36 (PySem.W.fnOf "_law_with_ends" "_law_with_ends" (defArgs (top 36)) (defBody (top 36)) (defScope (top 36)) .none kV36 dc36 pm36 an36 cd36 ct36) := dn_mk l36 c36 k36 (PySem.W.mg_of X G a36) fun F => F.binds (ps := ["deck", "table"]) fun _ _ _ _ _ _ us hl => match us, hl with | [_, _], _ => rfl
  have D37 : Dn K mg "law" (top 37) ["script"] f37 (PySem.W.fnOf "law" "law" (defArgs (top 37)) (defBody (top 37)) (defScope (top 37)) .none kV37 dc37 pm37 an37 cd37 ct37) := dn_mk l37 c37 k37 (PySem.W.mg_of X G a37) fun F => F.binds (ps := ["script"]) fun _ _ _ _ _ _ us hl => match us, hl with | [_], _ => rfl
  have T : Txt K mg (fun i => pick [f37, f37, f37, f37, f37, f37, f6, f7, f8, f9, f10, f37, f12, f13, f14, f15, f37, f37, f18, f37, f20, f21, f22, f23, f24, f25, f26, f37, f28, f29, f30, f31, f32, f33, f34, f35, f36, f37] i f37) (fun i => pick [PySem.W.fnOf "law" "law" (defArgs (top 37)) (defBody (top 37)) (defScope (top 37)) .none kV37 dc37 pm37 an37 cd37 ct37,
      PySem.W.fnOf "law" "law" (defArgs (top 37)) (defBody (top 37)) (defScope (top 37)) .none kV37 dc37 pm37 an37 cd37 ct37,
      PySem.W.fnOf "law" "law" (defArgs (top 37)) (defBody (top 37)) (defScope (top 37)) .none kV37 dc37 pm37 an37 cd37 ct37,
      PySem.W.fnOf "law" "law" (defArgs (top 37)) (defBody (top 37)) (defScope (top 37)) .none kV37 dc37 pm37 an37 cd37 ct37,
      PySem.W.fnOf "law" "law" (defArgs (top 37)) (defBody (top 37)) (defScope (top 37)) .none kV37 dc37 pm37 an37 cd37 ct37,
      PySem.W.fnOf "law" "law" (defArgs (top 37)) (defBody (top 37)) (defScope (top 37)) .none kV37 dc37 pm37 an37 cd37 ct37,
      PySem.W.fnOf "common_of" "common_of" (defArgs (top 6)) (defBody (top 6)) (defScope (top 6)) .none kV6 dc6 pm6 an6 cd6 ct6,
      PySem.W.fnOf "fraction" "fraction" (defArgs (top 7)) (defBody (top 7)) (defScope (top 7)) .none kV7 dc7 pm7 an7 cd7 ct7,
      PySem.W.fnOf "plus" "plus" (defArgs (top 8)) (defBody (top 8)) (defScope (top 8)) .none kV8 dc8 pm8 an8 cd8 ct8,
      PySem.W.fnOf "minus" "minus" (defArgs (top 9)) (defBody (top 9)) (defScope (top 9)) .none kV9 dc9 pm9 an9 cd9 ct9,
      PySem.W.fnOf "is_below" "is_below" (defArgs (top 10)) (defBody (top 10)) (defScope (top 10)) .none kV10 dc10 pm10 an10 cd10 ct10,
      PySem.W.fnOf "law" "law" (defArgs (top 37)) (defBody (top 37)) (defScope (top 37)) .none kV37 dc37 pm37 an37 cd37 ct37,
      PySem.W.fnOf "first_short" "first_short" (defArgs (top 12)) (defBody (top 12)) (defScope (top 12)) .none kV12 dc12 pm12 an12 cd12 ct12,
      PySem.W.fnOf "part_of" "part_of" (defArgs (top 13)) (defBody (top 13)) (defScope (top 13)) .none kV13 dc13 pm13 an13 cd13 ct13,
      PySem.W.fnOf "added" "added" (defArgs (top 14)) (defBody (top 14)) (defScope (top 14)) .none kV14 dc14 pm14 an14 cd14 ct14,
      PySem.W.fnOf "hung_together" "hung_together" (defArgs (top 15)) (defBody (top 15)) (defScope (top 15)) .none kV15 dc15 pm15 an15 cd15 ct15,
      PySem.W.fnOf "law" "law" (defArgs (top 37)) (defBody (top 37)) (defScope (top 37)) .none kV37 dc37 pm37 an37 cd37 ct37,
      PySem.W.fnOf "law" "law" (defArgs (top 37)) (defBody (top 37)) (defScope (top 37)) .none kV37 dc37 pm37 an37 cd37 ct37,
      PySem.W.fnOf "table_of" "table_of" (defArgs (top 18)) (defBody (top 18)) (defScope (top 18)) .none kV18 dc18 pm18 an18 cd18 ct18,
      PySem.W.fnOf "law" "law" (defArgs (top 37)) (defBody (top 37)) (defScope (top 37)) .none kV37 dc37 pm37 an37 cd37 ct37,
      PySem.W.fnOf "need_long" "need_long" (defArgs (top 20)) (defBody (top 20)) (defScope (top 20)) .none kV20 dc20 pm20 an20 cd20 ct20,
      PySem.W.fnOf "in_wholes" "in_wholes" (defArgs (top 21)) (defBody (top 21)) (defScope (top 21)) .none kV21 dc21 pm21 an21 cd21 ct21,
      PySem.W.fnOf "pairs_of" "pairs_of" (defArgs (top 22)) (defBody (top 22)) (defScope (top 22)) .none kV22 dc22 pm22 an22 cd22 ct22,
      PySem.W.fnOf "least_over" "least_over" (defArgs (top 23)) (defBody (top 23)) (defScope (top 23)) .none kV23 dc23 pm23 an23 cd23 ct23,
      PySem.W.fnOf "beside_of" "beside_of" (defArgs (top 24)) (defBody (top 24)) (defScope (top 24)) .none kV24 dc24 pm24 an24 cd24 ct24,
      PySem.W.fnOf "splits_of" "splits_of" (defArgs (top 25)) (defBody (top 25)) (defScope (top 25)) .none kV25 dc25 pm25 an25 cd25 ct25,
      PySem.W.fnOf "rest_table" "rest_table" (defArgs (top 26)) (defBody (top 26)) (defScope (top 26)) .none kV26 dc26 pm26 an26 cd26 ct26,
      PySem.W.fnOf "law" "law" (defArgs (top 37)) (defBody (top 37)) (defScope (top 37)) .none kV37 dc37 pm37 an37 cd37 ct37,
      PySem.W.fnOf "_law_stir" "_law_stir" (defArgs (top 28)) (defBody (top 28)) (defScope (top 28)) .none kV28 dc28 pm28 an28 cd28 ct28,
      PySem.W.fnOf "_law_deck" "_law_deck" (defArgs (top 29)) (defBody (top 29)) (defScope (top 29)) .none kV29 dc29 pm29 an29 cd29 ct29,
      PySem.W.fnOf "_law_take" "_law_take" (defArgs (top 30)) (defBody (top 30)) (defScope (top 30)) .none kV30 dc30 pm30 an30 cd30 ct30,
      PySem.W.fnOf "_law_fraction" "_law_fraction" (defArgs (top 31)) (defBody (top 31)) (defScope (top 31)) .none kV31 dc31 pm31 an31 cd31 ct31,
      PySem.W.fnOf "_law_table" "_law_table" (defArgs (top 32)) (defBody (top 32)) (defScope (top 32)) .none kV32 dc32 pm32 an32 cd32 ct32,
      PySem.W.fnOf "_law_sided" "_law_sided" (defArgs (top 33)) (defBody (top 33)) (defScope (top 33)) .none kV33 dc33 pm33 an33 cd33 ct33,
      PySem.W.fnOf "_law_is_bare" "_law_is_bare" (defArgs (top 34)) (defBody (top 34)) (defScope (top 34)) .none kV34 dc34 pm34 an34 cd34 ct34,
      PySem.W.fnOf "_law_is_even" "_law_is_even" (defArgs (top 35)) (defBody (top 35)) (defScope (top 35)) .none kV35 dc35 pm35 an35 cd35 ct35,
      PySem.W.fnOf "_law_with_ends" "_law_with_ends" (defArgs (top 36)) (defBody (top 36)) (defScope (top 36)) .none kV36 dc36 pm36 an36 cd36 ct36,
      PySem.W.fnOf "law" "law" (defArgs (top 37)) (defBody (top 37)) (defScope (top 37)) .none kV37 dc37 pm37 an37 cd37 ct37] i (PySem.W.fnOf "law" "law" (defArgs (top 37)) (defBody (top 37)) (defScope (top 37)) .none kV37 dc37 pm37 an37 cd37 ct37)) := {
    d6 := D6
    d7 := D7
    d8 := D8
    d9 := D9
    d10 := D10
    d12 := D12
    d13 := D13
    d14 := D14
    d15 := D15
    d18 := D18
    d20 := D20
    d21 := D21
    d22 := D22
    d23 := D23
    d24 := D24
    d25 := D25
    d26 := D26
    d28 := D28
    d29 := D29
    d30 := D30
    d31 := D31
    d32 := D32
    d33 := D33
    d34 := D34
    d35 := D35
    d36 := D36
    d37 := D37
    abs := PySem.W.mg_none_of X G z0
    len := PySem.W.mg_none_of X G z1
    range := PySem.W.mg_none_of X G z2
    set := PySem.W.mg_none_of X G z3
    zip := PySem.W.mg_none_of X G z4
    max := PySem.W.mg_none_of X G z5
    sorted := PySem.W.mg_none_of X G z6
    int := PySem.W.mg_none_of X G z7
    list := PySem.W.mg_none_of X G z8
    nought := ⟨tN, PySem.W.mg_of X G aN, fun H => .inr ⟨_, _, _, lN, rfl, rfl, by show 2 ≤ sizeLine; decide, .cons ⟨t0, rfl⟩ (.cons ⟨t1, rfl⟩ .nil)⟩⟩ }
  exact ⟨PySem.W.fnOf "law" "law" (defArgs (top 37)) (defBody (top 37)) (defScope (top 37)) .none kV37 dc37 pm37 an37 cd37 ct37, fun s v => .of_eq rfl, fun base _ _ => ok37 T⟩
end K57
end

section
set_option Elab.async false
set_option linter.all false
set_option maxRecDepth 100000
set_option exponentiation.threshold 10000
open PySem PySem.W PyProof.Rows in
set_option maxHeartbeats 0 in
theorem PySem.Challenge.cw_farcuts_k57_whole_rests_that_none_parts_holds : PySem.Challenge.rw_farcuts_k57_whole_rests_that_none_parts.Holds := by
  w_on; o_law; k_head; (case hw => w_witness2)
  k_fill
  refine L2.walk_of (l := PySem.Challenge.rw_farcuts_k57_whole_rests_that_none_parts) (n := 63) (k := 9) (x := "script") (CX := fun _ => L2.CX0) (sp := fun w => K57.spLaw (K := _)) rfl (by decide) rfl ⟨rfl, by decide, by decide⟩ (fun w h Y => PySem.W.kIn_of Y) ?F (fun _ _ a ns hl _ hS => ⟨a, ns, rfl, hS, hl, fun _ => rfl⟩) (fun _ _ _ _ _ h => h)
  case F =>
    intro w mg fa h KX G hmg
    refine' K57.all_mk KX G hmg ?a6 ?l6 ?c6 ?k6 ?a7 ?l7 ?c7 ?k7 ?a8 ?l8 ?c8 ?k8 ?a9 ?l9 ?c9 ?k9 ?a10 ?l10 ?c10 ?k10 ?a12 ?l12 ?c12 ?k12 ?a13 ?l13 ?c13 ?k13 ?a14 ?l14 ?c14 ?k14 ?a15 ?l15 ?c15 ?k15 ?a18 ?l18 ?c18 ?k18 ?a20 ?l20 ?c20 ?k20 ?a21 ?l21 ?c21 ?k21 ?a22 ?l22 ?c22 ?k22 ?a23 ?l23 ?c23 ?k23 ?a24 ?l24 ?c24 ?k24 ?a25 ?l25 ?c25 ?k25 ?a26 ?l26 ?c26 ?k26 ?a28 ?l28 ?c28 ?k28 ?a29 ?l29 ?c29 ?k29 ?a30 ?l30 ?c30 ?k30 ?a31 ?l31 ?c31 ?k31 ?a32 ?l32 ?c32 ?k32 ?a33 ?l33 ?c33 ?k33 ?a34 ?l34 ?c34 ?k34 ?a35 ?l35 ?c35 ?k35 ?a36 ?l36 ?c36 ?k36 ?a37 ?l37 ?c37 ?k37 ?aN ?lN ?z0 ?z1 ?z2 ?z3 ?z4 ?z5 ?z6 ?z7 ?z8
    (case a6 => k_is)
    (case l6 => k_is)
    (case c6 => k_is)
    (case k6 => k_is)
    (case a7 => k_is)
    (case l7 => k_is)
    (case c7 => k_is)
    (case k7 => k_is)
    (case a8 => k_is)
    (case l8 => k_is)
    (case c8 => k_is)
    (case k8 => k_is)
    (case a9 => k_is)
    (case l9 => k_is)
    (case c9 => k_is)
    (case k9 => k_is)
    (case a10 => k_is)
    (case l10 => k_is)
    (case c10 => k_is)
    (case k10 => k_is)
    (case a12 => k_is)
    (case l12 => k_is)
    (case c12 => k_is)
    (case k12 => k_is)
    (case a13 => k_is)
    (case l13 => k_is)
    (case c13 => k_is)
    (case k13 => k_is)
    (case a14 => k_is)
    (case l14 => k_is)
    (case c14 => k_is)
    (case k14 => k_is)
    (case a15 => k_is)
    (case l15 => k_is)
    (case c15 => k_is)
    (case k15 => k_is)
    (case a18 => k_is)
    (case l18 => k_is)
    (case c18 => k_is)
    (case k18 => k_is)
    (case a20 => k_is)
    (case l20 => k_is)
    (case c20 => k_is)
    (case k20 => k_is)
    (case a21 => k_is)
    (case l21 => k_is)
    (case c21 => k_is)
    (case k21 => k_is)
    (case a22 => k_is)
    (case l22 => k_is)
    (case c22 => k_is)
    (case k22 => k_is)
    (case a23 => k_is)
    (case l23 => k_is)
    (case c23 => k_is)
    (case k23 => k_is)
    (case a24 => k_is)
    (case l24 => k_is)
    (case c24 => k_is)
    (case k24 => k_is)
    (case a25 => k_is)
    (case l25 => k_is)
    (case c25 => k_is)
    (case k25 => k_is)
    (case a26 => k_is)
    (case l26 => k_is)
    (case c26 => k_is)
    (case k26 => k_is)
    (case a28 => k_is)
    (case l28 => k_is)
    (case c28 => k_is)
    (case k28 => k_is)
    (case a29 => k_is)
    (case l29 => k_is)
    (case c29 => k_is)
    (case k29 => k_is)
    (case a30 => k_is)
    (case l30 => k_is)
    (case c30 => k_is)
    (case k30 => k_is)
    (case a31 => k_is)
    (case l31 => k_is)
    (case c31 => k_is)
    (case k31 => k_is)
    (case a32 => k_is)
    (case l32 => k_is)
    (case c32 => k_is)
    (case k32 => k_is)
    (case a33 => k_is)
    (case l33 => k_is)
    (case c33 => k_is)
    (case k33 => k_is)
    (case a34 => k_is)
    (case l34 => k_is)
    (case c34 => k_is)
    (case k34 => k_is)
    (case a35 => k_is)
    (case l35 => k_is)
    (case c35 => k_is)
    (case k35 => k_is)
    (case a36 => k_is)
    (case l36 => k_is)
    (case c36 => k_is)
    (case k36 => k_is)
    (case a37 => k_is)
    (case l37 => k_is)
    (case c37 => k_is)
    (case k37 => k_is)
    (case aN => k_is)
    (case lN => k_is)
    (case z0 => k_is)
    (case z1 => k_is)
    (case z2 => k_is)
    (case z3 => k_is)
    (case z4 => k_is)
    (case z5 => k_is)
    (case z6 => k_is)
    (case z7 => k_is)
    (case z8 => k_is)
end
