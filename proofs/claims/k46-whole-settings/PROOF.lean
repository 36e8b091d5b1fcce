import PyProof.Rows.All
import Wide.All
import OpenK.AllK
import Wide.FinOn
import HandS.ForMost
import HandS.IsInst
import HandS.NoneIn
import HandS.Codes
import PySem.Challenge.RW_evenhub_k46_whole_settings
set_option Elab.async false
set_option linter.all false
set_option maxRecDepth 100000
set_option maxHeartbeats 4000000
namespace EH
/-! ### the loops, by fuel -/
/-- a prime taken out of n, with the power taken -/
def outF : Nat → Nat → Nat → Nat → Option (Nat × Nat)
  | 0, _, _, _ => none
  | f + 1, n, p, q => if n % p = 0 then outF f (n / p) p (q * p) else some (n, q)
def partsF : Nat → Nat → Nat → List (Nat × Nat) → Option (List (Nat × Nat))
  | 0, _, _, _ => none
  | f + 1, n, p, found =>
    if p * p ≤ n then
      match outF 12 n p 1 with
      | none => none
      | some (m, q) => partsF f m (p + 1) (if 1 < q then found ++ [(p, q)] else found)
    else some (if 1 < n then found ++ [(n, n)] else found)
def partsL (n : Nat) : List (Nat × Nat) := (partsF 30 n 2 []).getD []
/-- the primes of a wheel -/
def P (n : Nat) : List Nat := (partsL n).map (·.1)
def stripF : Nat → Nat → Nat → Option Nat
  | 0, _, _ => none
  | f + 1, n, p => if n % p = 0 then stripF f (n / p) p else some n
def lpF : Nat → Nat → Nat → List Nat → Option (List Nat)
  | 0, _, _, _ => none
  | f + 1, n, p, found =>
    if 1 < n then
      match stripF 12 n p with
      | none => none
      | some m => lpF f m (p + 1) (if n % p = 0 then found ++ [p] else found)
    else some found
def wheelF : List Nat → Nat → Option Nat
  | [], n => some n
  | p :: ps, n => match stripF 12 n p with
    | none => none
    | some m => wheelF ps m
def backF : Nat → Int → Int → Int → Int → Option (Int × Int)
  | 0, _, _, _, _ => none
  | f + 1, one, other, before, now => if 0 < other then backF f other (one - one / other * other) now (before - one / other * now) else some (one, before)
def backM (p q : Nat) : Option Int :=
  match backF 30 (q : Int) ((p : Int) % (q : Int)) 0 1 with
  | some (1, b) => some (if b % (q : Int) = 0 then (q : Int) else b % (q : Int))
  | _ => none
/-! ### what is so of all wheels, by reckoning -/
def okP (n : Nat) : Bool :=
  match P n with
  | [] => n == 1
  | [p] => n % p == 0 && Nat.ble 2 n
  | [p, q] => n % (p * q) == 0 && Nat.gcd p q == 1 && (match backM p q with | some (.ofNat r) => r * p % q == 1 && Nat.ble r 420 | _ => false) && Nat.ble 2 n
  | _ => true
def ok1 (n : Nat) : Bool :=
  (match lpF 430 n 2 [] with | some l => l == P n | none => false) && (partsF 30 n 2 []).isSome && (P n).all (fun p => Nat.ble 2 p && Nat.ble p 420) &&
    (match wheelF ((P n).drop 2) n with | some w => Nat.ble 1 w && Nat.ble w 420 && Nat.ble (P w).length 2 | none => false) && okP n
set_option maxHeartbeats 0 in
theorem ok_all : (List.range 420).all (fun k => ok1 (k + 1)) = true := by decide +kernel
end EH
namespace EH
theorem ok_one {n : Nat} (h1 : 1 ≤ n) (h2 : n ≤ 420) : ok1 n = true := by
  have h := List.all_eq_true.mp ok_all (n - 1) (List.mem_range.mpr (by omega))
  rwa [Nat.sub_add_cancel h1] at h
structure Facts (n : Nat) : Prop where
  lp : lpF 430 n 2 [] = some (P n)
  pa : partsF 30 n 2 [] = some (partsL n)
  two : ∀ p ∈ P n, 2 ≤ p ∧ p ≤ 420
  wh : ∃ w, wheelF ((P n).drop 2) n = some w ∧ 1 ≤ w ∧ w ≤ 420 ∧ (P w).length ≤ 2
  ok : okP n = true
theorem facts {n : Nat} (h1 : 1 ≤ n) (h2 : n ≤ 420) : Facts n := by
  have h := ok_one h1 h2
  unfold ok1 at h
  simp only [Bool.and_eq_true] at h
  obtain ⟨⟨⟨⟨a, b⟩, c⟩, d⟩, e⟩ := h
  refine ⟨?_, ?_, fun p hp => ?_, ?_, e⟩
  · split at a
    · rename_i l hl
      rw [hl, eq_of_beq a]
    · cases a
  · obtain ⟨l, hl⟩ := Option.isSome_iff_exists.mp b
    unfold partsL
    rw [hl]
    rfl
  · have q := List.all_eq_true.mp c p hp
    simp only [Bool.and_eq_true, Nat.ble_eq] at q
    exact q
  · split at d
    · rename_i w hw
      simp only [Bool.and_eq_true, Nat.ble_eq] at d
      exact ⟨w, hw, d.1.1, d.1.2, d.2⟩
    · cases d
/-- a wheel that is asked of -/
structure Good (n : Nat) : Prop where
  lo : 1 ≤ n
  hi : n ≤ 420
  few : (P n).length ≤ 2
theorem Good.f {n : Nat} (g : Good n) : Facts n := facts g.lo g.hi
/-- the three kinds of wheels -/
inductive Kind (n : Nat) : List Nat → Prop where
  | nil (h : n = 1) : Kind n []
  | one (p m : Nat) (h : 2 ≤ p) (hi : p ≤ 420) (hm : 1 ≤ m) (e : n = m * p) : Kind n [p]
  | two (p q g : Nat) (hp : 2 ≤ p) (hq : 2 ≤ q) (pi : p ≤ 420) (qi : q ≤ 420) (hg : 1 ≤ g) (e : n = g * (p * q)) (co : Nat.Coprime p q)
      (r : Nat) (hr : backM p q = some (r : Int)) (r1 : r * p % q = 1) (r2 : r ≤ 420) : Kind n [p, q]
theorem Good.kind {n : Nat} (g : Good n) : Kind n (P n) := by
  have f := g.f
  have few := g.few
  have two := f.two
  have ok := f.ok
  have lo := g.lo
  unfold okP at ok
  match h : P n with
  | [] =>
    rw [h] at ok
    exact .nil (eq_of_beq ok)
  | [p] =>
    rw [h] at ok two
    simp only [Bool.and_eq_true, Nat.ble_eq, beq_iff_eq] at ok
    have t := two p (by simp)
    have hd := Nat.div_mul_cancel (Nat.dvd_of_mod_eq_zero ok.1)
    refine .one p (n / p) t.1 t.2 ?_ hd.symm
    exact Nat.div_pos (Nat.le_of_dvd lo (Nat.dvd_of_mod_eq_zero ok.1)) (by omega)
  | [p, q] =>
    rw [h] at ok two
    simp only [Bool.and_eq_true, Nat.ble_eq, beq_iff_eq] at ok
    have t := two p (by simp)
    have u := two q (by simp)
    obtain ⟨⟨⟨a, b⟩, c⟩, d⟩ := ok
    have hd := Nat.div_mul_cancel (Nat.dvd_of_mod_eq_zero a)
    split at c
    · rename_i r hr
      simp only [Bool.and_eq_true, Nat.ble_eq, beq_iff_eq] at c
      refine .two p q (n / (p * q)) t.1 u.1 t.2 u.2 ?_ hd.symm b r hr c.1 c.2
      exact Nat.div_pos (Nat.le_of_dvd lo (Nat.dvd_of_mod_eq_zero a)) (Nat.mul_pos (by omega) (by omega))
    · cases c
  | a :: b :: c :: r =>
    rw [h] at few
    simp at few
/-! ### rings, loads -/
def bump (l : List Int) (x : Nat) : List Int := l.set x (l.getD x 0 + 1)
def loadL (n : Nat) (hs : List Nat) : List Int := hs.foldl bump (List.replicate n 0)
def ringH (n p s : Nat) : List Nat := (List.range p).map fun k => (s + k * (n / p)) % n
def holes (n : Nat) (rows : List (Nat × Nat)) : List Nat := rows.flatMap fun r => ringH n r.1 r.2
theorem bump_length (l : List Int) (x : Nat) : (bump l x).length = l.length := List.length_set
theorem fold_length (hs : List Nat) : ∀ l : List Int, (hs.foldl bump l).length = l.length := by
  induction hs with
  | nil => intro l; rfl
  | cons x r ih => intro l; rw [List.foldl_cons, ih, bump_length]
theorem bump_getD (l : List Int) (x y : Nat) (h : y < l.length) : (bump l x).getD y 0 = l.getD y 0 + (if x = y then 1 else 0) := by
  unfold bump
  by_cases e : x = y
  · subst e
    simp [List.getD_eq_getElem?_getD, h]
  · simp [List.getD_eq_getElem?_getD, e, List.getElem?_set_ne e]
theorem fold_getD (hs : List Nat) : ∀ (l : List Int) (y : Nat), y < l.length → (hs.foldl bump l).getD y 0 = l.getD y 0 + (hs.count y : Int) := by
  induction hs with
  | nil => intro l y _; simp
  | cons x r ih =>
    intro l y h
    rw [List.foldl_cons, ih _ _ (by rw [bump_length]; exact h), bump_getD l x y h, List.count_cons]
    by_cases e : x = y
    · simp [e]; omega
    · simp [e]
theorem load_getD {n : Nat} {hs : List Nat} {y : Nat} (h : y < n) : (loadL n hs).getD y 0 = (hs.count y : Int) := by
  unfold loadL
  rw [fold_getD _ _ _ (by simpa using h)]
  simp [List.getD_eq_getElem?_getD, h]
theorem load_length (n : Nat) (hs : List Nat) : (loadL n hs).length = n := by
  unfold loadL; rw [fold_length]; simp
theorem set_sum : ∀ {l : List Int} {j : Nat} (y : Int), j < l.length → (l.set j y).sum = l.sum - l.getD j 0 + y
  | [], j, y, h => by simp at h
  | a :: r, 0, y, h => by simp; omega
  | a :: r, j + 1, y, h => by
    have ih := set_sum (l := r) (j := j) y (by simpa using h)
    simp only [List.set_cons_succ, List.sum_cons, ih, List.getD_cons_succ]
    omega
theorem fold_sum (hs : List Nat) : ∀ (l : List Int), (∀ x ∈ hs, x < l.length) → (hs.foldl bump l).sum = l.sum + (hs.length : Int) := by
  induction hs with
  | nil => intro l _; simp
  | cons x r ih =>
    intro l h
    have hx : x < l.length := h x (by simp)
    rw [List.foldl_cons, ih _ (fun y hy => by rw [bump_length]; exact h y (by simp [hy]))]
    unfold bump
    rw [set_sum _ hx]
    simp
    omega
theorem load_sum {n : Nat} {hs : List Nat} (h : ∀ x ∈ hs, x < n) : (loadL n hs).sum = (hs.length : Int) := by
  unfold loadL
  rw [fold_sum _ _ (by simpa using h)]
  have : (List.replicate n (0 : Int)).sum = 0 := by
    induction n with
    | zero => rfl
    | succ n ih => simp [List.replicate_succ]
  omega
theorem ring_length (n p s : Nat) : (ringH n p s).length = p := by unfold ringH; simp
theorem ring_lt {n p s : Nat} (h : 0 < n) : ∀ x ∈ ringH n p s, x < n := by
  intro x hx
  unfold ringH at hx
  obtain ⟨k, _, rfl⟩ := List.mem_map.mp hx
  exact Nat.mod_lt _ h
/-! ### a ring is turned into itself -/
theorem mod_split {m p x : Nat} : x % (m * p) = x % m + m * (x / m % p) := Nat.mod_mul
theorem ring_mem {m p s y : Nat} (hm : 0 < m) (hp : 0 < p) (hy : y < m * p) : y ∈ ringH (m * p) p s ↔ y % m = s % m := by
  unfold ringH
  rw [Nat.mul_div_cancel m hp, List.mem_map]
  constructor
  · rintro ⟨k, _, rfl⟩
    rw [mod_split, Nat.add_mul_mod_self_left, Nat.mod_mod, Nat.add_mul_mod_self_right]
  · intro e
    have ey : y = y % m + m * (y / m) := (Nat.mod_add_div y m).symm
    have hu : y / m < p := Nat.div_lt_of_lt_mul hy
    have es : s = s % m + m * (s / m) := (Nat.mod_add_div s m).symm
    have hv : s / m % p < p := Nat.mod_lt _ hp
    refine ⟨(y / m + (p - s / m % p)) % p, List.mem_range.mpr (Nat.mod_lt _ hp), ?_⟩
    have d1 : (s + (y / m + (p - s / m % p)) % p * m) / m = s / m + (y / m + (p - s / m % p)) % p := Nat.add_mul_div_right _ _ hm
    rw [mod_split, d1, Nat.add_mul_mod_self_right, ← e]
    have key : (s / m + (y / m + (p - s / m % p)) % p) % p = y / m := by
      rw [Nat.add_mod, Nat.mod_mod, ← Nat.add_mod]
      have h1 : s / m = p * (s / m / p) + s / m % p := (Nat.div_add_mod (s / m) p).symm
      have h2 : s / m + (y / m + (p - s / m % p)) = y / m + p * (s / m / p + 1) := by
        rw [Nat.mul_add]; omega
      rw [h2, Nat.add_mul_mod_self_left, Nat.mod_eq_of_lt hu]
    rw [key]
    exact ey.symm
theorem ring_nodup {m p s : Nat} (hm : 0 < m) (hp : 0 < p) : (ringH (m * p) p s).Nodup := by
  unfold ringH List.Nodup
  rw [Nat.mul_div_cancel m hp, List.pairwise_map]
  refine List.Pairwise.imp_of_mem ?_ List.pairwise_lt_range
  intro a b ha hb hab e
  have ha := List.mem_range.mp ha
  have hb := List.mem_range.mp hb
  rw [mod_split, mod_split (x := s + b * m), Nat.add_mul_mod_self_right, Nat.add_mul_mod_self_right, Nat.add_mul_div_right _ _ hm, Nat.add_mul_div_right _ _ hm] at e
  have e2 : (s / m + a) % p = (s / m + b) % p := Nat.eq_of_mul_eq_mul_left hm (Nat.add_left_cancel e)
  have e3 : ((s / m + b) - (s / m + a)) % p = 0 := Nat.sub_mod_eq_zero_of_mod_eq e2.symm
  have e4 : (s / m + b) - (s / m + a) = b - a := by omega
  rw [e4, Nat.mod_eq_of_lt (by omega)] at e3
  omega
theorem ring_count {m p s y : Nat} (hm : 0 < m) (hp : 0 < p) (hy : y < m * p) : (ringH (m * p) p s).count y = if y % m = s % m then 1 else 0 := by
  by_cases e : y % m = s % m
  · rw [if_pos e]
    have h1 : 0 < (ringH (m * p) p s).count y := List.count_pos_iff.mpr ((ring_mem hm hp hy).mpr e)
    have h2 : (ringH (m * p) p s).count y ≤ 1 := List.nodup_iff_count.mp (ring_nodup hm hp) y
    omega
  · rw [if_neg e]
    exact List.count_eq_zero.mpr fun h => e ((ring_mem hm hp hy).mp h)
theorem ring_turn {m p s y : Nat} (hm : 0 < m) (hp : 0 < p) : (ringH (m * p) p s).count ((y + m) % (m * p)) = (ringH (m * p) p s).count (y % (m * p)) := by
  have h0 : 0 < m * p := Nat.mul_pos hm hp
  rw [ring_count hm hp (Nat.mod_lt _ h0), ring_count hm hp (Nat.mod_lt _ h0), Nat.mod_mul_right_mod, Nat.mod_mul_right_mod, Nat.add_mod_right]
end EH
namespace EH
/-! ### holes apart -/
theorem dvd_small {p d : Nat} (h : p ∣ d) (hd : d < p) : d = 0 := Nat.eq_zero_of_dvd_of_lt h hd
theorem inj_le {g p q h i i' : Nat} (hg : 0 < g) (hp : 0 < p) (co : Nat.Coprime p q) (hi' : i' < p) (hii : i ≤ i') (e : (h + i * (g * q)) % (g * p) = (h + i' * (g * q)) % (g * p)) : i = i' := by
  have e3 : ((h + i' * (g * q)) - (h + i * (g * q))) % (g * p) = 0 := Nat.sub_mod_eq_zero_of_mod_eq e.symm
  have e4 : (h + i' * (g * q)) - (h + i * (g * q)) = g * ((i' - i) * q) := by
    rw [Nat.add_sub_add_left, ← Nat.sub_mul, Nat.mul_left_comm]
  rw [e4, Nat.mul_mod_mul_left] at e3
  have e5 : (i' - i) * q % p = 0 := by
    rcases Nat.mul_eq_zero.mp e3 with z | z
    · omega
    · exact z
  have e6 : p ∣ (i' - i) := co.dvd_of_dvd_mul_right (Nat.dvd_of_mod_eq_zero e5)
  have e7 := dvd_small e6 (by omega)
  omega
theorem inj_one {g p q h i i' : Nat} (hg : 0 < g) (hp : 0 < p) (co : Nat.Coprime p q) (hi : i < p) (hi' : i' < p) (e : (h + i * (g * q)) % (g * p) = (h + i' * (g * q)) % (g * p)) : i = i' := by
  rcases Nat.le_total i i' with z | z
  · exact inj_le hg hp co hi' z e
  · exact (inj_le hg hp co hi z e.symm).symm
def HH (g p q h i j : Nat) : Nat := (h + i * (g * q) + j * (g * p)) % (g * (p * q))
theorem HH_p {g p q h i j : Nat} : HH g p q h i j % (g * p) = (h + i * (g * q)) % (g * p) := by
  unfold HH
  rw [← Nat.mul_assoc g p q, Nat.mod_mul_right_mod, Nat.add_mul_mod_self_right]
theorem HH_q {g p q h i j : Nat} : HH g p q h i j % (g * q) = (h + j * (g * p)) % (g * q) := by
  unfold HH
  rw [Nat.mul_comm p q, ← Nat.mul_assoc g q p, Nat.mod_mul_right_mod, Nat.add_right_comm, Nat.add_mul_mod_self_right]
theorem HH_g {g p q h i j : Nat} (hh : h < g) : HH g p q h i j % g = h := by
  have e := HH_p (g := g) (p := p) (q := q) (h := h) (i := i) (j := j)
  have e1 : HH g p q h i j % (g * p) % g = (h + i * (g * q)) % (g * p) % g := by rw [e]
  rw [Nat.mod_mul_right_mod, Nat.mod_mul_right_mod, Nat.mul_left_comm, Nat.add_mul_mod_self_left, Nat.mod_eq_of_lt hh] at e1
  exact e1
theorem HH_inj {g p q h i j h' i' j' : Nat} (hp : 0 < p) (hq : 0 < q) (co : Nat.Coprime p q) (hh : h < g) (hh' : h' < g) (hi : i < p) (hi' : i' < p) (hj : j < q) (hj' : j' < q)
    (e : HH g p q h i j = HH g p q h' i' j') : h = h' ∧ i = i' ∧ j = j' := by
  have e0 : h = h' := by
    have z := HH_g (p := p) (q := q) (i := i) (j := j) hh
    rw [e, HH_g hh'] at z
    exact z.symm
  subst e0
  have hg : 0 < g := by omega
  have e1 := HH_p (g := g) (p := p) (q := q) (h := h) (i := i) (j := j)
  rw [e, HH_p] at e1
  have e2 := HH_q (g := g) (p := p) (q := q) (h := h) (i := i) (j := j)
  rw [e, HH_q] at e2
  exact ⟨rfl, (inj_one hg hp co hi' hi e1).symm, (inj_one hg hq (Nat.coprime_comm.mp co) hj' hj e2).symm⟩
/-! ### the rows of a setting -/
def gridL (n p q a b first : Nat) : List (Nat × Nat) :=
  ((List.range a).map fun k => (p, (k / q + k % q * (n / q)) % n)) ++ ((List.range b).map fun k => (q, (first + k / p + k % p * (n / p)) % n))
theorem holes_append (n : Nat) (a b : List (Nat × Nat)) : holes n (a ++ b) = holes n a ++ holes n b := by unfold holes; rw [List.flatMap_append]
theorem holes_map {n a : Nat} (f : Nat → Nat × Nat) : holes n ((List.range a).map f) = (List.range a).flatMap fun k => ringH n (f k).1 (f k).2 := by
  unfold holes; rw [List.flatMap_map]
theorem flat_congr {α β : Type} {l : List α} {f g : α → List β} (h : ∀ x ∈ l, f x = g x) : l.flatMap f = l.flatMap g := by
  induction l with
  | nil => rfl
  | cons a r ih =>
    rw [List.flatMap_cons, List.flatMap_cons, h a (by simp), ih fun x hx => h x (by simp [hx])]
section
variable {g p q a b first : Nat}
theorem nq (hq : 0 < q) : g * (p * q) / q = g * p := by rw [← Nat.mul_assoc, Nat.mul_div_cancel _ hq]
theorem np (hp : 0 < p) : g * (p * q) / p = g * q := by rw [Nat.mul_left_comm, Nat.mul_div_cancel_left _ hp]
theorem ring_1 (hp : 0 < p) (hq : 0 < q) {k : Nat} (hk : k < q) : ringH (g * (p * q)) p ((k / q + k % q * (g * (p * q) / q)) % (g * (p * q))) = (List.range p).map fun j => HH g p q 0 j k := by
  unfold ringH
  refine List.map_congr_left fun j _ => ?_
  rw [nq hq, np hp, Nat.div_eq_of_lt hk, Nat.mod_eq_of_lt hk, Nat.mod_add_mod]
  unfold HH
  rw [Nat.zero_add, Nat.zero_add, Nat.add_comm]
theorem ring_2 (hp : 0 < p) (hq : 0 < q) {k : Nat} : ringH (g * (p * q)) q ((first + k / p + k % p * (g * (p * q) / p)) % (g * (p * q))) = (List.range q).map fun j => HH g p q (first + k / p) (k % p) j := by
  unfold ringH
  refine List.map_congr_left fun j _ => ?_
  rw [nq hq, np hp, Nat.mod_add_mod]
  rfl
theorem grid_holes (hp : 0 < p) (hq : 0 < q) (ha : a ≤ q) : holes (g * (p * q)) (gridL (g * (p * q)) p q a b first) =
    ((List.range a).flatMap fun k => (List.range p).map fun j => HH g p q 0 j k) ++ ((List.range b).flatMap fun k => (List.range q).map fun j => HH g p q (first + k / p) (k % p) j) := by
  unfold gridL
  rw [holes_append, holes_map, holes_map]
  congr 1
  · exact flat_congr fun k hk => ring_1 hp hq (Nat.lt_of_lt_of_le (List.mem_range.mp hk) ha)
  · exact flat_congr fun k _ => ring_2 hp hq
theorem grid_nodup (hp : 0 < p) (hq : 0 < q) (co : Nat.Coprime p q) (ha : a ≤ q) (hg : 0 < g) (hb : b ≤ p * (g - first)) (h0 : first = 0 → a = 0) : (holes (g * (p * q)) (gridL (g * (p * q)) p q a b first)).Nodup := by
  have kb : ∀ k, k < b → first + k / p < g := fun k hk => by
    have h1 : k / p < g - first := Nat.div_lt_of_lt_mul (by omega)
    revert h1
    generalize k / p = t
    intro h1
    omega
  rw [grid_holes hp hq ha]
  unfold List.Nodup
  rw [List.pairwise_append]
  refine ⟨?_, ?_, ?_⟩
  · rw [List.pairwise_flatMap]
    refine ⟨fun k hk => ?_, ?_⟩
    · have hk := List.mem_range.mp hk
      rw [List.pairwise_map]
      refine List.Pairwise.imp_of_mem ?_ List.pairwise_lt_range
      intro x y hx hy hxy e
      have hx := List.mem_range.mp hx
      have hy := List.mem_range.mp hy
      have z := HH_inj hp hq co hg hg hx hy (by omega) (by omega) e
      omega
    · refine List.Pairwise.imp_of_mem ?_ List.pairwise_lt_range
      intro k k' hk hk' hkk x hx y hy e
      have hk := List.mem_range.mp hk
      have hk' := List.mem_range.mp hk'
      obtain ⟨j, hj, rfl⟩ := List.mem_map.mp hx
      obtain ⟨j', hj', rfl⟩ := List.mem_map.mp hy
      have z := HH_inj hp hq co hg hg (List.mem_range.mp hj) (List.mem_range.mp hj') (by omega) (by omega) e
      omega
  · rw [List.pairwise_flatMap]
    refine ⟨fun k hk => ?_, ?_⟩
    · have hk := List.mem_range.mp hk
      rw [List.pairwise_map]
      refine List.Pairwise.imp_of_mem ?_ List.pairwise_lt_range
      intro x y hx hy hxy e
      have hx := List.mem_range.mp hx
      have hy := List.mem_range.mp hy
      have z := HH_inj hp hq co (kb k hk) (kb k hk) (Nat.mod_lt _ hp) (Nat.mod_lt _ hp) hx hy e
      omega
    · refine List.Pairwise.imp_of_mem ?_ List.pairwise_lt_range
      intro k k' hk hk' hkk x hx y hy e
      have hk := List.mem_range.mp hk
      have hk' := List.mem_range.mp hk'
      obtain ⟨j, hj, rfl⟩ := List.mem_map.mp hx
      obtain ⟨j', hj', rfl⟩ := List.mem_map.mp hy
      have z := HH_inj hp hq co (kb k hk) (kb k' hk') (Nat.mod_lt _ hp) (Nat.mod_lt _ hp) (List.mem_range.mp hj) (List.mem_range.mp hj') e
      have d1 := Nat.div_add_mod k p
      have d2 := Nat.div_add_mod k' p
      have d3 : k / p = k' / p := by omega
      rw [d3, z.2.1] at d1
      omega
  · intro x hx y hy e
    obtain ⟨k, hk, hx⟩ := List.mem_flatMap.mp hx
    obtain ⟨k', hk', hy⟩ := List.mem_flatMap.mp hy
    have hk := List.mem_range.mp hk
    have hk' := List.mem_range.mp hk'
    obtain ⟨j, hj, rfl⟩ := List.mem_map.mp hx
    obtain ⟨j', hj', rfl⟩ := List.mem_map.mp hy
    have z := HH_inj hp hq co hg (kb k' hk') (List.mem_range.mp hj) (Nat.mod_lt _ hp) (by omega) (List.mem_range.mp hj') e
    have z1 := z.1
    revert z1
    generalize k' / p = t
    intro z1
    have := h0 (by omega)
    omega
theorem flat_length {α : Type} {l : List Nat} {f : Nat → List α} {c : Nat} (h : ∀ x ∈ l, (f x).length = c) : (l.flatMap f).length = l.length * c := by
  induction l with
  | nil => simp
  | cons x r ih =>
    rw [List.flatMap_cons, List.length_append, h x (by simp), ih fun y hy => h y (by simp [hy]), List.length_cons, Nat.add_mul]
    omega
theorem grid_length {n : Nat} : (holes n (gridL n p q a b first)).length = a * p + b * q := by
  unfold gridL
  rw [holes_append, List.length_append, holes_map, holes_map, flat_length (c := p) fun x _ => ring_length _ _ _, flat_length (c := q) fun x _ => ring_length _ _ _]
  simp
theorem holes_lt {n : Nat} (hn : 0 < n) (rows : List (Nat × Nat)) : ∀ x ∈ holes n rows, x < n := by
  intro x hx
  unfold holes at hx
  obtain ⟨r, _, hx⟩ := List.mem_flatMap.mp hx
  exact ring_lt hn x hx
end
/-! one prime -/
def rowL (p c : Nat) : List (Nat × Nat) := (List.range c).map fun h => (p, h)
theorem row_length {n p c : Nat} : (holes n (rowL p c)).length = c * p := by
  unfold rowL
  rw [holes_map, flat_length (c := p) fun x _ => ring_length _ _ _]
  simp
theorem row_nodup {m p c : Nat} (hm : 0 < m) (hp : 0 < p) (hc : c ≤ m) : (holes (m * p) (rowL p c)).Nodup := by
  unfold rowL
  rw [holes_map]
  unfold List.Nodup
  rw [List.pairwise_flatMap]
  refine ⟨fun k _ => ring_nodup hm hp, ?_⟩
  refine List.Pairwise.imp_of_mem ?_ List.pairwise_lt_range
  intro k k' hk hk' hkk x hx y hy e
  have hk := List.mem_range.mp hk
  have hk' := List.mem_range.mp hk'
  subst e
  have hn : 0 < m * p := Nat.mul_pos hm hp
  have e1 := (ring_mem hm hp (ring_lt hn x hx)).mp hx
  have e2 := (ring_mem hm hp (ring_lt hn x hx)).mp hy
  simp only at e1 e2
  rw [e1, Nat.mod_eq_of_lt (by omega), Nat.mod_eq_of_lt (by omega)] at e2
  omega
end EH
namespace EH
/-! ### sums of primes -/
def psM (n : Nat) (many : Int) : Option (List Int) :=
  if many < 0 then none else
  match P n with
  | [] => if many = 0 then some [] else none
  | [p] => if many % (p : Int) = 0 then some [many / (p : Int)] else none
  | p :: q :: _ => if many < many * (backM p q).getD 0 % (q : Int) * (p : Int) then none
      else some [many * (backM p q).getD 0 % (q : Int), (many - many * (backM p q).getD 0 % (q : Int) * (p : Int)) / (q : Int)]
def canM (ps : List Nat) (many : Int) : Bool :=
  if many < 0 then false else
  match ps with
  | [] => decide (many = 0)
  | [p] => decide (many % (p : Int) = 0)
  | p :: q :: _ => (List.range q).any fun few => decide ((few : Int) * (p : Int) ≤ many) && decide ((many - (few : Int) * (p : Int)) % (q : Int) = 0)
theorem few_div {p q r : Nat} (hq : 2 ≤ q) (r1 : r * p % q = 1) (many : Int) : (q : Int) ∣ many - many * (r : Int) % (q : Int) * (p : Int) := by
  have h1 : ((r * p : Nat) : Int) = (q : Int) * ((r * p / q : Nat) : Int) + 1 := by
    have this := Nat.div_add_mod (r * p) q
    rw [r1] at this
    have e := congrArg Int.ofNat this
    exact e.symm.trans (Int.natCast_add _ _ |>.trans (by rw [Int.natCast_mul]; rfl))
  have h2 := Int.mul_ediv_add_emod (many * (r : Int)) (q : Int)
  have h3 : many * (r : Int) % (q : Int) = many * (r : Int) - (q : Int) * (many * (r : Int) / (q : Int)) := by omega
  rw [Int.natCast_mul] at h1
  refine ⟨(many * (r : Int) / (q : Int)) * (p : Int) - many * ((r * p / q : Nat) : Int), ?_⟩
  rw [h3]
  generalize many * (r : Int) / (q : Int) = t
  generalize ((r * p / q : Nat) : Int) = u at h1 ⊢
  have h4 : many * ((r : Int) * (p : Int)) = many * ((q : Int) * u + 1) := by rw [h1]
  grind
theorem few_only {p q r few : Nat} (hq : 2 ≤ q) (r1 : r * p % q = 1) (many : Int) (hf : few < q) (h : (many - (few : Int) * (p : Int)) % (q : Int) = 0) : many * (r : Int) % (q : Int) = (few : Int) := by
  have h1 : ((r * p : Nat) : Int) = (q : Int) * ((r * p / q : Nat) : Int) + 1 := by
    have this := Nat.div_add_mod (r * p) q
    rw [r1] at this
    have e := congrArg Int.ofNat this
    exact e.symm.trans (Int.natCast_add _ _ |>.trans (by rw [Int.natCast_mul]; rfl))
  rw [Int.natCast_mul] at h1
  obtain ⟨t, ht⟩ := Int.dvd_of_emod_eq_zero h
  generalize ((r * p / q : Nat) : Int) = u at h1
  have h2 : many * (r : Int) = (few : Int) + (q : Int) * (t * (r : Int) + (few : Int) * u) := by
    have : many = (few : Int) * (p : Int) + (q : Int) * t := by omega
    rw [this]
    grind
  rw [h2, Int.add_mul_emod_self_left, Int.emod_eq_of_lt (by omega) (by omega)]
theorem can_ps {n : Nat} (g : Good n) (many : Int) : canM (P n) many = (psM n many).isSome := by
  have k := g.kind
  unfold canM psM
  by_cases h0 : many < 0
  · rw [if_pos h0, if_pos h0]; rfl
  · rw [if_neg h0, if_neg h0]
    generalize P n = l at k
    cases k with
    | nil _ => by_cases h : many = 0 <;> simp [h]
    | one p m _ _ _ _ => by_cases h : many % (p : Int) = 0 <;> simp [h]
    | two p q g' hp hq pi qi hg e co r hr r1 r2 =>
      simp only [hr, Option.getD_some]
      by_cases h : many < many * (r : Int) % (q : Int) * (p : Int)
      · rw [if_pos h]
        apply Bool.eq_false_iff.mpr
        intro hany
        obtain ⟨few, hf, hh⟩ := List.any_eq_true.mp hany
        simp only [Bool.and_eq_true, decide_eq_true_eq] at hh
        have z := few_only hq r1 many (List.mem_range.mp hf) hh.2
        rw [z] at h
        omega
      · rw [if_neg h]
        refine List.any_eq_true.mpr ⟨(many * (r : Int) % (q : Int)).toNat, List.mem_range.mpr ?_, ?_⟩
        · have := Int.emod_lt_of_pos (many * (r : Int)) (show (0 : Int) < (q : Int) by omega)
          have := Int.emod_nonneg (many * (r : Int)) (show (q : Int) ≠ 0 by omega)
          omega
        · have h5 := Int.emod_nonneg (many * (r : Int)) (show (q : Int) ≠ 0 by omega)
          rw [Int.toNat_of_nonneg h5]
          simp only [Bool.and_eq_true, decide_eq_true_eq]
          exact ⟨by omega, Int.emod_eq_zero_of_dvd (few_div hq r1 many)⟩
/-! ### the setting -/
def settingM (n : Nat) (many : Int) : Option (List Int) :=
  if n = 1 ∧ many = 0 then some [0] else
  match psM n many, psM n (n - many) with
  | some c, some o => if n = 1 then none else
    match P n with
    | [] => none
    | [p] => some (loadL n (holes n (rowL p (c.getD 0 0).toNat)))
    | p :: q :: _ => some (loadL n (holes n (gridL n p q (c.getD 0 0).toNat (c.getD 1 0).toNat ((c.getD 0 0 + o.getD 0 0) / (q : Int)).toNat)))
  | _, _ => none
def due (n : Nat) (many : Int) : Bool := if n = 1 then decide (many = 0) else canM (P n) many && canM (P n) (n - many)
def stepsL (n : Nat) (ps : List Nat) : List Nat := ps.foldl (fun s p => s ++ s.map fun far => far + n / p) [0]
def wgt (l : List Int) (n : Nat) (steps : List Nat) (h k : Nat) : Int := if k = 1 ∨ k = 2 then 0 - l.getD ((h + steps.getD k 0) % n) 0 else l.getD ((h + steps.getD k 0) % n) 0
def altS (l : List Int) (n : Nat) (steps : List Nat) (h : Nat) : Nat → Int
  | 0 => 0
  | k + 1 => altS l n steps h k + wgt l n steps h k
structure GoodSet (l : List Int) (n : Nat) (many : Int) : Prop where
  len : l.length = n
  sum : l.sum = many
  bits : ∀ h, h < n → l.getD h 0 = 0 ∨ l.getD h 0 = 1
  alt : ∀ h, h < n → altS l n (stepsL n (P n)) h (stepsL n (P n)).length = 0
theorem count_bit {hs : List Nat} (h : hs.Nodup) (x : Nat) : (hs.count x : Int) = 0 ∨ (hs.count x : Int) = 1 := by
  have := List.nodup_iff_count.mp h x
  omega
/-- the sum over a ring's holes, turned -/
theorem row_turn {m p c : Nat} (hm : 0 < m) (hp : 0 < p) (y : Nat) : (holes (m * p) (rowL p c)).count ((y + m) % (m * p)) = (holes (m * p) (rowL p c)).count (y % (m * p)) := by
  unfold rowL
  rw [holes_map]
  induction c with
  | zero => rfl
  | succ c ih => rw [List.range_succ, List.flatMap_append, List.count_append, List.count_append, ih, List.flatMap_singleton, ring_turn hm hp]
theorem rows_turn {n : Nat} {p q : Nat} {rows : List (Nat × Nat)} (hr : ∀ r ∈ rows, (r.1 = p ∨ r.1 = q)) {mp mq : Nat} (hmp : 0 < mp) (hmq : 0 < mq) (hp : 0 < p) (hq : 0 < q) (ep : n = mp * p) (eq : n = mq * q) (y : Nat) :
    (holes n rows).count (y % n) + (holes n rows).count ((y + (mp + mq)) % n) = (holes n rows).count ((y + mp) % n) + (holes n rows).count ((y + mq) % n) := by
  induction rows with
  | nil => rfl
  | cons r rest ih =>
    have ih := ih fun x hx => hr x (by simp [hx])
    have e : holes n (r :: rest) = ringH n r.1 r.2 ++ holes n rest := by unfold holes; rw [List.flatMap_cons]
    rw [e]
    simp only [List.count_append]
    have key : (ringH n r.1 r.2).count (y % n) + (ringH n r.1 r.2).count ((y + (mp + mq)) % n) = (ringH n r.1 r.2).count ((y + mp) % n) + (ringH n r.1 r.2).count ((y + mq) % n) := by
      rcases hr r (by simp) with z | z
      · rw [z]
        have a := ring_turn (s := r.2) (y := y) hmp hp
        have b := ring_turn (s := r.2) (y := y + mq) hmp hp
        rw [← ep] at a b
        rw [a, ← b, Nat.add_assoc y mq mp, Nat.add_comm mq mp]
      · rw [z]
        have a := ring_turn (s := r.2) (y := y) hmq hq
        have b := ring_turn (s := r.2) (y := y + mp) hmq hq
        rw [← eq] at a b
        rw [a, ← b, Nat.add_assoc y mp mq, Nat.add_comm]
    omega
theorem getD_mod {n x : Nat} {hs : List Nat} (hn : 0 < n) : (loadL n hs).getD (x % n) 0 = (hs.count (x % n) : Int) := load_getD (Nat.mod_lt _ hn)
theorem good_one {m p c : Nat} {many : Int} (hm : 0 < m) (hp : 2 ≤ p) (hc : c ≤ m) (eP : P (m * p) = [p]) (e : ((c * p : Nat) : Int) = many) : GoodSet (loadL (m * p) (holes (m * p) (rowL p c))) (m * p) many := by
  have hn : 0 < m * p := Nat.mul_pos hm (by omega)
  refine ⟨load_length _ _, ?_, fun h hh => ?_, fun h hh => ?_⟩
  · rw [load_sum (holes_lt hn _), row_length]; exact e
  · rw [load_getD hh]; exact count_bit (row_nodup hm (by omega) hc) h
  · rw [eP]
    have t := row_turn (c := c) hm (show 0 < p by omega) h
    show altS _ _ [0, 0 + m * p / p] h 2 = 0
    rw [Nat.mul_div_cancel m (by omega), Nat.zero_add]
    simp only [altS, wgt]
    simp only [List.getD_cons_zero, List.getD_cons_succ, getD_mod hn, Nat.add_zero, t]
    simp
    omega
theorem good_two {p q g a b first : Nat} {many : Int} (hp : 2 ≤ p) (hq : 2 ≤ q) (hg : 1 ≤ g) (co : Nat.Coprime p q) (ha : a ≤ q) (hb : b ≤ p * (g - first)) (h0 : first = 0 → a = 0) (eP : P (g * (p * q)) = [p, q])
    (e : ((a * p + b * q : Nat) : Int) = many) : GoodSet (loadL (g * (p * q)) (holes (g * (p * q)) (gridL (g * (p * q)) p q a b first))) (g * (p * q)) many := by
  have hn : 0 < g * (p * q) := Nat.mul_pos (by omega) (Nat.mul_pos (by omega) (by omega))
  refine ⟨load_length _ _, ?_, fun h hh => ?_, fun h hh => ?_⟩
  · rw [load_sum (holes_lt hn _), grid_length]; exact e
  · rw [load_getD hh]; exact count_bit (grid_nodup (by omega) (by omega) co ha (by omega) hb h0) h
  · rw [eP]
    have t := rows_turn (n := g * (p * q)) (p := p) (q := q) (rows := gridL (g * (p * q)) p q a b first) (mp := g * q) (mq := g * p) (fun r hr => by
      unfold gridL at hr
      rcases List.mem_append.mp hr with z | z
      · obtain ⟨k, _, rfl⟩ := List.mem_map.mp z; exact .inl rfl
      · obtain ⟨k, _, rfl⟩ := List.mem_map.mp z; exact .inr rfl) (Nat.mul_pos (by omega) (by omega)) (Nat.mul_pos (by omega) (by omega)) (by omega) (by omega) (by rw [Nat.mul_assoc, Nat.mul_comm q p]) (by rw [Nat.mul_assoc]) h
    show altS _ _ [0, 0 + g * (p * q) / p, 0 + g * (p * q) / q, 0 + g * (p * q) / p + g * (p * q) / q] h 4 = 0
    rw [np (by omega), nq (by omega), Nat.zero_add, Nat.zero_add]
    simp only [altS, wgt]
    simp only [List.getD_cons_zero, List.getD_cons_succ, getD_mod hn, Nat.add_zero]
    simp
    omega
theorem P_one : P 1 = [] := by decide +kernel
theorem good_nil : GoodSet [0] 1 0 := by
  refine ⟨rfl, rfl, fun h hh => ?_, fun h hh => ?_⟩
  · have : h = 0 := by omega
    subst this; exact .inl rfl
  · have : h = 0 := by omega
    subst this; rw [P_one]; rfl
theorem setting_main {n : Nat} (G : Good n) (many : Int) : due n many = (settingM n many).isSome ∧ ∀ l, settingM n many = some l → GoodSet l n many := by
  have k := G.kind
  have hc1 := can_ps G many
  have hc2 := can_ps G (n - many)
  by_cases h1 : n = 1
  · subst h1
    unfold due settingM
    by_cases hm : many = 0
    · subst hm
      exact ⟨by simp, fun l hl => by simp at hl; subst hl; exact good_nil⟩
    · rw [if_pos rfl, if_neg (by omega)]
      constructor
      · rw [decide_eq_false hm]
        split <;> simp
      · intro l hl
        split at hl <;> simp at hl
  · unfold due settingM
    rw [if_neg h1, if_neg (by omega), hc1, hc2]
    cases hp1 : psM n many with
    | none => simp
    | some c =>
      cases hp2 : psM n (n - many) with
      | none => simp
      | some o =>
        simp only [if_neg h1, Option.isSome_some, Bool.and_self]
        unfold psM at hp1 hp2
        have n0 : ¬ many < 0 := fun z => by rw [if_pos z] at hp1; cases hp1
        have n2 : ¬ ((n : Int) - many) < 0 := fun z => by rw [if_pos z] at hp2; cases hp2
        rw [if_neg n0] at hp1
        rw [if_neg n2] at hp2
        generalize hl : P n = l at k hp1 hp2
        cases k with
        | nil h => exact absurd h h1
        | one p m hp hi hm e =>
          simp only at hp1 hp2 ⊢
          split at hp1
          · rename_i hd
            cases hp1
            refine ⟨rfl, fun l e2 => ?_⟩
            cases e2
            subst e
            have hpos : (0 : Int) < (p : Int) := by omega
            have h3 := Int.mul_ediv_cancel' (Int.dvd_of_emod_eq_zero hd)
            have h4 : 0 ≤ many / (p : Int) := Int.ediv_nonneg (by omega) (by omega)
            simp only [List.getD_cons_zero]
            refine good_one (by omega) hp ?_ hl ?_
            · have h5 : many / (p : Int) ≤ (m : Int) := by
                have : many ≤ (m : Int) * (p : Int) := by
                  have : ((m * p : Nat) : Int) = (m : Int) * (p : Int) := Int.natCast_mul _ _
                  omega
                exact Int.ediv_le_of_le_mul hpos this
              omega
            · rw [Int.natCast_mul, Int.toNat_of_nonneg h4, Int.mul_comm]; exact h3
          · cases hp1
        | two p q g hp hq pi qi hg e co r hr r1 r2 =>
          simp only [hr, Option.getD_some] at hp1 hp2 ⊢
          split at hp1
          · cases hp1
          · rename_i hd
            cases hp1
            split at hp2
            · cases hp2
            · rename_i hd2
              cases hp2
              refine ⟨rfl, fun l e2 => ?_⟩
              cases e2
              simp only [List.getD_cons_zero, List.getD_cons_succ]
              have qpos : (0 : Int) < (q : Int) := by omega
              have a0 := Int.emod_nonneg (many * (r : Int)) (show (q : Int) ≠ 0 by omega)
              have a1 := Int.emod_lt_of_pos (many * (r : Int)) qpos
              have b0 := Int.emod_nonneg (((n : Int) - many) * (r : Int)) (show (q : Int) ≠ 0 by omega)
              have b1 := Int.emod_lt_of_pos (((n : Int) - many) * (r : Int)) qpos
              have f1 := few_div hq r1 many
              have f2 := few_div hq r1 ((n : Int) - many)
              have s1 := Int.mul_ediv_cancel' f1
              have s2 := Int.mul_ediv_cancel' f2
              have c0 : 0 ≤ (many - many * (r : Int) % (q : Int) * (p : Int)) / (q : Int) := Int.ediv_nonneg (by omega) (by omega)
              have d0 : 0 ≤ ((n : Int) - many - ((n : Int) - many) * (r : Int) % (q : Int) * (p : Int)) / (q : Int) := Int.ediv_nonneg (by omega) (by omega)
              generalize (many - many * (r : Int) % (q : Int) * (p : Int)) / (q : Int) = B at s1 c0 ⊢
              generalize ((n : Int) - many - ((n : Int) - many) * (r : Int) % (q : Int) * (p : Int)) / (q : Int) = B' at s2 d0
              generalize many * (r : Int) % (q : Int) = A at s1 a0 a1 ⊢
              generalize ((n : Int) - many) * (r : Int) % (q : Int) = A' at s2 b0 b1 ⊢
              obtain ⟨a, rfl⟩ := Int.eq_ofNat_of_zero_le a0
              obtain ⟨a', rfl⟩ := Int.eq_ofNat_of_zero_le b0
              obtain ⟨b, rfl⟩ := Int.eq_ofNat_of_zero_le c0
              obtain ⟨b', rfl⟩ := Int.eq_ofNat_of_zero_le d0
              have sum1 : ((a * p + b * q : Nat) : Int) = many := by
                rw [Int.natCast_add, Int.natCast_mul, Int.natCast_mul, Int.mul_comm (b : Int)]; omega
              have sum2 : (a + a') * p + (b + b') * q = g * (p * q) := by
                have h7 : (((a + a') * p + (b + b') * q : Nat) : Int) = (n : Int) := by
                  have e1 : ((a' * p + b' * q : Nat) : Int) = (n : Int) - many := by
                    rw [Int.natCast_add, Int.natCast_mul, Int.natCast_mul, Int.mul_comm (b' : Int)]; omega
                  have e3 : (a + a') * p + (b + b') * q = (a * p + b * q) + (a' * p + b' * q) := by
                    rw [Nat.add_mul, Nat.add_mul]; omega
                  rw [e3, Int.natCast_add]; omega
                omega
              have dq : q ∣ a + a' := by
                have h8 : q ∣ (a + a') * p := by
                  have h9 : q ∣ (a + a') * p + (b + b') * q := by
                    rw [sum2, ← Nat.mul_assoc]; exact Nat.dvd_mul_left _ _
                  exact (Nat.dvd_add_iff_left (Nat.dvd_mul_left q (b + b'))).mpr h9
                exact (Nat.coprime_comm.mp co).dvd_of_dvd_mul_right h8
              obtain ⟨t, ht⟩ := dq
              have efirst : (((a : Int) + (a' : Int)) / (q : Int)).toNat = t := by
                have : (a : Int) + (a' : Int) = (q : Int) * (t : Int) := by
                  have : ((a + a' : Nat) : Int) = ((q * t : Nat) : Int) := by rw [ht]
                  rw [Int.natCast_mul, Int.natCast_add] at this; exact this
                rw [this, Int.mul_ediv_cancel_left _ (by omega)]; simp
              rw [efirst]
              have ht2 : t ≤ 1 := by
                rcases Nat.lt_or_ge 1 t with z | z
                · have : q * 2 ≤ q * t := Nat.mul_le_mul_left q z
                  omega
                · exact z
              have sum3 : b + b' = p * (g - t) := by
                have h10 : (b + b') * q = (p * (g - t)) * q := by
                  rw [ht] at sum2
                  have h11 : p * (g - t) * q = g * (p * q) - q * t * p := by
                    rw [Nat.mul_sub, Nat.sub_mul]
                    congr 1
                    · rw [Nat.mul_comm p g, Nat.mul_assoc]
                    · rw [Nat.mul_comm p t, Nat.mul_assoc, Nat.mul_comm p q, ← Nat.mul_assoc, Nat.mul_comm t q]
                  omega
                exact Nat.eq_of_mul_eq_mul_right (by omega) h10
              simp only [Int.toNat_natCast]
              subst e
              refine good_two hp hq hg co (by omega) (by omega) (fun z => ?_) hl sum1
              subst z
              omega
end EH
namespace EH
open PySem PySem.Spec PyProof.Rows L2
/-! ### the text -/
def topS (i : Nat) : Stmt := PySem.Challenge.pw_evenhub_k46_whole_settings.main.body.getD i (.Pass ⟨0, 0, 0, 0⟩)
abbrev sParts : Stmt := topS 6
abbrev sBack : Stmt := topS 7
abbrev sPrR : Stmt := topS 9
abbrev sAddR : Stmt := topS 11
abbrev sLaid : Stmt := topS 12
abbrev sPrS : Stmt := topS 14
abbrev sPSum : Stmt := topS 16
abbrev sGrid : Stmt := topS 18
abbrev sSet : Stmt := topS 19
abbrev sCell : Stmt := topS 21
abbrev sWhole : Stmt := topS 22
abbrev sNums : Stmt := topS 23
abbrev sLPr : Stmt := topS 24
abbrev sWheel : Stmt := topS 25
abbrev sCan : Stmt := topS 26
abbrev sLSet : Stmt := topS 27
abbrev sDrawn : Stmt := topS 28
abbrev sMany : Stmt := topS 29
abbrev sLaw : Stmt := topS 30
theorem scParts : FnScope ["n", "found", "p", "q"] ["n"] (defScope sParts) := ⟨rfl, rfl, rfl, by decide +kernel, rfl, by decide +kernel, by decide +kernel⟩
theorem scBack : FnScope ["step", "n", "one", "other", "before", "now", "many"] ["step", "n"] (defScope sBack) := ⟨rfl, rfl, rfl, by decide +kernel, rfl, by decide +kernel, by decide +kernel⟩
theorem scPrR : FnScope ["n", "part"] ["n"] (defScope sPrR) := ⟨rfl, rfl, rfl, by decide +kernel, rfl, by decide +kernel, by decide +kernel⟩
theorem scAddR : FnScope ["load", "p", "hole", "many", "n", "k", "at"] ["load", "p", "hole", "many"] (defScope sAddR) := ⟨rfl, rfl, rfl, by decide +kernel, rfl, by decide +kernel, by decide +kernel⟩
theorem scLaid : FnScope ["n", "rows", "some", "load", "p", "hole", "many"] ["n", "rows"] (defScope sLaid) := ⟨rfl, rfl, rfl, by decide +kernel, rfl, by decide +kernel, by decide +kernel⟩
theorem scPrS : FnScope ["n", "found", "p", "full"] ["n"] (defScope sPrS) := ⟨rfl, rfl, rfl, by decide +kernel, rfl, by decide +kernel, by decide +kernel⟩
theorem scPSum : FnScope ["n", "many", "primes", "p", "q", "few"] ["n", "many"] (defScope sPSum) := ⟨rfl, rfl, rfl, by decide +kernel, rfl, by decide +kernel, by decide +kernel⟩
theorem scGrid : FnScope ["n", "primes", "counts", "first", "p", "q", "rows", "k"] ["n", "primes", "counts", "first"] (defScope sGrid) := ⟨rfl, rfl, rfl, by decide +kernel, rfl, by decide +kernel, by decide +kernel⟩
theorem scSet : FnScope ["n", "many", "primes", "counts", "others", "hole"] ["n", "many"] (defScope sSet) := ⟨rfl, rfl, rfl, by decide +kernel, rfl, by decide +kernel, by decide +kernel⟩
theorem scCell : FnScope ["script", "k"] ["script", "k"] (defScope sCell) := ⟨rfl, rfl, rfl, by decide +kernel, rfl, by decide +kernel, by decide +kernel⟩
theorem scWhole : FnScope ["found"] ["found"] (defScope sWhole) := ⟨rfl, rfl, rfl, by decide +kernel, rfl, by decide +kernel, by decide +kernel⟩
theorem scNums : FnScope ["found", "many", "one"] ["found", "many"] (defScope sNums) := ⟨rfl, rfl, rfl, by decide +kernel, rfl, by decide +kernel, by decide +kernel⟩
theorem scLPr : FnScope ["n", "found", "p"] ["n"] (defScope sLPr) := ⟨rfl, rfl, rfl, by decide +kernel, rfl, by decide +kernel, by decide +kernel⟩
theorem scWheel : FnScope ["cell", "n", "p"] ["cell"] (defScope sWheel) := ⟨rfl, rfl, rfl, by decide +kernel, rfl, by decide +kernel, by decide +kernel⟩
theorem scCan : FnScope ["primes", "many", "few"] ["primes", "many"] (defScope sCan) := ⟨rfl, rfl, rfl, by decide +kernel, rfl, by decide +kernel, by decide +kernel⟩
theorem scLSet : FnScope ["found", "n", "many", "steps", "p", "hole", "total", "k", "weight", "far"] ["found", "n", "many"] (defScope sLSet) := ⟨rfl, rfl, rfl, by decide +kernel, rfl, by decide +kernel, by decide +kernel⟩
theorem scDrawn : FnScope ["cells", "many", "drawn", "k", "at"] ["cells", "many"] (defScope sDrawn) := ⟨rfl, rfl, rfl, by decide +kernel, rfl, by decide +kernel, by decide +kernel⟩
theorem scMany : FnScope ["n", "cell"] ["n", "cell"] (defScope sMany) := ⟨rfl, rfl, rfl, by decide +kernel, rfl, by decide +kernel, by decide +kernel⟩
theorem scLaw : FnScope ["script", "n", "primes", "asks", "numbers", "drawn", "many", "due", "found", "cell"] ["script"] (defScope sLaw) := ⟨rfl, rfl, rfl, by decide +kernel, rfl, by decide +kernel, by decide +kernel⟩
/-! ### small words -/
theorem same_upd {H : Hp} {p : Addr} {o : HO} (h : H p = none) : Same H (upd H p o) := fun b x e => by
  rw [upd_ne (ne_of_none e h)]
  exact e
abbrev vN (n : Nat) : V := .int (n : Int)
abbrev vNs (l : List Nat) : List V := l.map vN
abbrev vIs (l : List Int) : List V := l.map V.int
end EH
namespace EH
open PySem PySem.Spec PyProof.Rows L2
/-- tuples of two numbers at these places -/
def TupsAt (H : Hp) (ts : List Addr) (l : List (Nat × Nat)) : Prop := ts.length = l.length ∧ ∀ (i : Nat) (t : Addr) (r : Nat × Nat), ts[i]? = some t → l[i]? = some r → H t = some (.tup [vN r.1, vN r.2])
theorem TupsAt.nil {H : Hp} : TupsAt H [] [] := ⟨rfl, fun i t r h => by simp at h⟩
theorem TupsAt.snoc {H H' : Hp} {ts : List Addr} {l : List (Nat × Nat)} (h : TupsAt H ts l) {t : Addr} {r : Nat × Nat} (k : ∀ a xs, H a = some (.tup xs) → H' a = some (.tup xs)) (e : H' t = some (.tup [vN r.1, vN r.2])) : TupsAt H' (ts ++ [t]) (l ++ [r]) := by
  refine ⟨by simp [h.1], fun i t' r' h1 h2 => ?_⟩
  by_cases hi : i < ts.length
  · rw [List.getElem?_append_left hi] at h1
    rw [List.getElem?_append_left (by rw [← h.1]; exact hi)] at h2
    exact k _ _ (h.2 i t' r' h1 h2)
  · rw [List.getElem?_append_right (by omega)] at h1
    rw [List.getElem?_append_right (by rw [← h.1]; omega)] at h2
    rw [← h.1] at h2
    have hz : i - ts.length = 0 := by
      rcases Nat.eq_zero_or_pos (i - ts.length) with z | z
      · exact z
      · rw [List.getElem?_eq_none (by simp; omega)] at h1; cases h1
    rw [hz] at h1 h2
    cases h1
    cases h2
    exact e
theorem TupsAt.keep {H H' : Hp} {ts : List Addr} {l : List (Nat × Nat)} (h : TupsAt H ts l) (k : ∀ a xs, H a = some (.tup xs) → H' a = some (.tup xs)) : TupsAt H' ts l := ⟨h.1, fun i t r a b => k _ _ (h.2 i t r a b)⟩
theorem small64 {n : Nat} (h : n ≤ 100000) : CMul (n : Int) j := .inl ⟨by omega, by omega⟩
theorem small64r {n : Nat} (h : n ≤ 100000) : CMul j (n : Int) := .inr ⟨by omega, by omega⟩
section
variable {P : Program} {w : World} {K : PySem.W.Frag} {mg : Str → Option Value} {base : Heap}
def spParts : Sp := fun vs H Q _ => ∃ n : Nat, vs = [vN n] ∧ 1 ≤ n ∧ n ≤ 420 ∧ ∀ (H' : Hp) (p : Addr) (ts : List Addr), Same H H' → H p = none → H' p = some (.lst (ts.map V.ref)) → TupsAt H' ts (partsL n) → Q (.ref p) H'
theorem ok_parts {f : Addr} {fd : FuncData} (F : Fun K "parts" "parts" sParts f fd) : FnOk P w K mg base CX0 1 f fd ["n"] spParts := by
  refine F.ok scParts (fun vs H Q E h => ?_) (fun cdv A outer s H vs Q E hr h => ?_)
  · obtain ⟨n, rfl, _⟩ := h
    rfl
  · obtain ⟨n0, rfl, hn1, hn2, q⟩ := h
    have hF := (facts hn1 hn2).pa
    refine ⟨_, pss_cons (ps_set (i := 1) scParts.nd rfl (.inl rfl) (pe_lst pa_nil))
      (pss_cons (ps_set (i := 2) scParts.nd rfl (.inl rfl) pe_int)
      (pss_cons (ps_while PassesOwn.never (pt_cmpR op_le (pe_op op_mul (pv 2) (pv 2)) (pv 0) (nomark _))
        (pss_cons (ps_set (i := 3) scParts.nd rfl (.inl rfl) pe_int)
        (pss_cons (ps_while PassesOwn.never (pt_cmpR op_eq (pe_op op_mod (pv 0) (pv 2)) pe_int (nomark _))
          (pss_cons (ps_set (i := 0) scParts.nd rfl (.inl rfl) (pe_op op_fdiv (pv 0) (pv 2)))
          (pss_one (ps_set (i := 3) scParts.nd rfl (.inl rfl) (pe_op op_mul (pv 3) (pv 2))))))
        (pss_cons (ps_if (pt_cmpR op_gt (pv 3) pe_int (nomark _))
          (pss_one (ps_expr (pe_bm PySem.F.plainAttrs_list PySem.F.slot_list_append PySem.F.type_list_append mt_append (pv 1) (pa_cons (pe_tup (pa_cons (pv 2) (pa_cons (pv 3) pa_nil))) pa_nil)))) pss_nil)
        (pss_one (ps_set (i := 2) scParts.nd rfl (.inl rfl) (pe_op op_add (pv 2) pe_int)))))))
      (pss_cons (ps_if (pt_cmpR op_gt (pv 0) pe_int (nomark _))
        (pss_one (ps_expr (pe_bm PySem.F.plainAttrs_list PySem.F.slot_list_append PySem.F.type_list_append mt_append (pv 1) (pa_cons (pe_tup (pa_cons (pv 0) (pa_cons (pv 0) pa_nil))) pa_nil)))) pss_nil)
      (pss_one (ps_ret (pv 1)))))), ?_⟩
    refine ⟨Nat.zero_le _, fun o no => ?_⟩
    -- the outer loop
    refine ⟨fun m σ H' => ∃ (n p : Nat) (l : List (Nat × Nat)) (ts : List Addr) (y : Option V), σ = [some (vN n), some (.ref o), some (vN p), y] ∧ p + m = 32 ∧ 2 ≤ p ∧ l.length ≤ p ∧ partsF m n p l = some (partsL n0) ∧ Same H H' ∧ H' o = some (.lst (ts.map V.ref)) ∧ TupsAt H' ts l,
      ⟨30, n0, 2, [], [], none, rfl, rfl, by omega, by simp, hF, same_upd no, upd_same, .nil⟩, fun m σ H1 hW => ?_⟩
    obtain ⟨n, p, l, ts, y, rfl, em, hp, hl, hm, sm, ho, ht⟩ := hW
    have hS : SqL K H1 o (ts.map V.ref) := .of ho
    cases m with
    | zero => cases hm
    | succ m =>
    unfold partsF at hm
    refine ⟨_, rfl, _, rfl, _, _, rfl, rfl, small64 (by omega), _, rfl, _, _, rfl, rfl, _, rfl, ite2 (fun e => ?_) (fun e => ?_)⟩
    · have e1 : p * p ≤ n := by
        have := of_decide_eq_true e
        exact Int.ofNat_le.mp (by rw [Int.natCast_mul]; exact this)
      rw [if_pos e1] at hm
      generalize hu : outF 12 n p 1 = u at hm
      cases u with
      | none => cases hm
      | some u =>
      obtain ⟨n2, q2⟩ := u
      simp only at hm
      refine ⟨fun σ' H' => ∃ (n p : Nat) (l : List (Nat × Nat)) (ts : List Addr) (y : Option V), σ' = [some (vN n), some (.ref o), some (vN p), y] ∧ p + m = 32 ∧ 2 ≤ p ∧ l.length ≤ p ∧ partsF m n p l = some (partsL n0) ∧ Same H H' ∧ H' o = some (.lst (ts.map V.ref)) ∧ TupsAt H' ts l,
        fun σ' H' hN => ⟨m, Nat.lt_succ_self m, hN⟩, ?_⟩
      -- the inner loop
      refine ⟨fun m σ H' => ∃ (n q : Nat), σ = [some (vN n), some (.ref o), some (vN p), some (vN q)] ∧ outF m n p q = some (n2, q2) ∧ H' = H1, ⟨12, n, 1, rfl, hu, rfl⟩, fun m3 σ3 H3 hW3 => ?_⟩
      obtain ⟨n3, q3, rfl, hm3, rfl⟩ := hW3
      cases m3 with
      | zero => cases hm3
      | succ m3 =>
      unfold outF at hm3
      refine ⟨_, rfl, _, rfl, _, _, rfl, rfl, (by show (0 : Int) < (p : Int); omega), rfl, _, rfl, ite2 (fun e => ?_) (fun e => ?_)⟩
      · have e2 : n3 % p = 0 := by
          have := V.int.inj (of_decide_eq_true e)
          exact Int.ofNat.inj (by rw [Int.ofNat_eq_natCast, Int.natCast_emod]; exact this)
        rw [if_pos e2] at hm3
        refine ⟨fun σ H' => ∃ (n q : Nat), σ = [some (vN n), some (.ref o), some (vN p), some (vN q)] ∧ outF m3 n p q = some (n2, q2) ∧ H' = H3, fun σ' H' hN => ⟨m3, Nat.lt_succ_self m3, hN⟩, ?_⟩
        refine ⟨_, rfl, _, rfl, _, _, rfl, rfl, ⟨(by show (0 : Int) < (p : Int); omega), (by show (p : Int) < 1073741824; omega)⟩, ?_⟩
        refine ⟨_, rfl, _, rfl, _, _, rfl, rfl, small64r (by omega), ?_⟩
        exact ⟨n3 / p, q3 * p, rfl, hm3, rfl⟩
      · have e2 : ¬ n3 % p = 0 := fun z => e (decide_eq_true (by show V.int ((n3 : Int) % (p : Int)) = V.int 0; rw [← Int.natCast_emod, z]; rfl))
        rw [if_neg e2] at hm3
        cases hm3
        refine ⟨_, rfl, _, _, rfl, rfl, _, rfl, ite2 (fun e => ?_) (fun e => ?_)⟩
        · have e3 : 1 < q2 := by
            have : (1 : Int) < (q2 : Int) := of_decide_eq_true e
            omega
          rw [if_pos e3] at hm
          refine ⟨_, rfl, .inl ⟨rfl, _, hS⟩, _, rfl, _, rfl, (by show 2 ≤ sizeLine; decide), fun t nt => ?_⟩
          have no2 : o ≠ t := ne_of_none ho nt
          refine ⟨o, ts.map V.ref, _, rfl, rfl, (upd_ne no2).trans ho, ?_, ?_⟩
          · rw [List.length_map, ht.1]
            exact small1000 (by omega)
          refine ⟨_, rfl, _, _, rfl, rfl, ?_⟩
          refine ⟨n2, p + 1, l ++ [(p, q2)], ts ++ [t], _, rfl, by omega, by omega, by simp; omega, hm, fun b x e => ?_, ?_, ?_⟩
          · rw [upd_ne (ne_of_none e no), upd_ne (ne_of_none (sm _ _ e) nt)]
            exact sm _ _ e
          · rw [upd_same, List.map_append]; rfl
          · refine ht.snoc (fun a xs e => ?_) ?_
            · rw [upd_ne (ne_of e ho (by intro z; cases z)), upd_ne (ne_of_none e nt)]
              exact e
            · rw [upd_ne no2.symm, upd_same]
        · have e3 : ¬ 1 < q2 := fun z => e (decide_eq_true (by show (1 : Int) < (q2 : Int); omega))
          rw [if_neg e3] at hm
          refine ⟨_, rfl, _, _, rfl, rfl, ?_⟩
          exact ⟨n2, p + 1, l, ts, _, rfl, by omega, by omega, by omega, hm, sm, ho, ht⟩
    · have e1 : ¬ p * p ≤ n := fun z => e (decide_eq_true (by have := Int.ofNat_le.mpr z; rw [Int.natCast_mul] at this; exact this))
      rw [if_neg e1] at hm
      refine ⟨_, rfl, _, _, rfl, rfl, _, rfl, ite2 (fun e => ?_) (fun e => ?_)⟩
      · have e3 : 1 < n := by
          have : (1 : Int) < (n : Int) := of_decide_eq_true e
          omega
        rw [if_pos e3] at hm
        have hm := Option.some.inj hm
        refine ⟨_, rfl, .inl ⟨rfl, _, hS⟩, _, rfl, _, rfl, (by show 2 ≤ sizeLine; decide), fun t nt => ?_⟩
        have no2 : o ≠ t := ne_of_none ho nt
        refine ⟨o, ts.map V.ref, _, rfl, rfl, (upd_ne no2).trans ho, ?_, ?_⟩
        · rw [List.length_map, ht.1]
          exact small1000 (by omega)
        refine ⟨_, rfl, ?_⟩
        refine q _ o (ts ++ [t]) (fun b x e => ?_) no ?_ ?_
        · rw [upd_ne (ne_of_none e no), upd_ne (ne_of_none (sm _ _ e) nt)]
          exact sm _ _ e
        · rw [upd_same, List.map_append]; rfl
        · rw [← hm]
          refine ht.snoc (fun a xs e => ?_) ?_
          · rw [upd_ne (ne_of e ho (by intro z; cases z)), upd_ne (ne_of_none e nt)]
            exact e
          · rw [upd_ne no2.symm, upd_same]
      · have e3 : ¬ 1 < n := fun z => e (decide_eq_true (by show (1 : Int) < (n : Int); omega))
        rw [if_neg e3] at hm
        have hm := Option.some.inj hm
        refine ⟨_, rfl, ?_⟩
        refine q _ o ts sm no ho ?_
        rw [← hm]
        exact ht
end
end EH
namespace EH
open PySem PySem.Spec PyProof.Rows L2
theorem backM_some {p q : Nat} {r : Int} (h : backM p q = some r) : ∃ b, backF 30 (q : Int) ((p : Int) % (q : Int)) 0 1 = some (1, b) ∧ r = if b % (q : Int) = 0 then (q : Int) else b % (q : Int) := by
  unfold backM at h
  split at h
  · rename_i b hb
    exact ⟨b, hb, (Option.some.inj h).symm⟩
  · cases h
section
variable {P : Program} {w : World} {K : PySem.W.Frag} {mg : Str → Option Value} {base : Heap}
def spBack : Sp := fun vs H Q _ => ∃ (p q r : Nat), vs = [vN p, vN q] ∧ 2 ≤ q ∧ q ≤ 420 ∧ backM p q = some (r : Int) ∧ Q (vN r) H
theorem ok_back {f : Addr} {fd : FuncData} (F : Fun K "back" "back" sBack f fd) : FnOk P w K mg base CX0 1 f fd ["step", "n"] spBack := by
  refine F.ok scBack (fun vs H Q E h => ?_) (fun cdv A outer s H vs Q E hr h => ?_)
  · obtain ⟨p, q, r, rfl, _⟩ := h
    rfl
  · obtain ⟨p, q, r, rfl, hq1, hq2, hM, k⟩ := h
    obtain ⟨b, hB, er⟩ := backM_some hM
    refine ⟨_, pss_cons (ps_set (i := 2) scBack.nd rfl (.inl rfl) (pv 1))
      (pss_cons (ps_set (i := 3) scBack.nd rfl (.inl rfl) (pe_op op_mod (pv 0) (pv 1)))
      (pss_cons (ps_set (i := 4) scBack.nd rfl (.inl rfl) pe_int)
      (pss_cons (ps_set (i := 5) scBack.nd rfl (.inl rfl) pe_int)
      (pss_cons (ps_while PassesOwn.never (pt_cmpR op_gt (pv 3) pe_int (nomark _))
        (pss_cons (ps_set (i := 6) scBack.nd rfl (.inl rfl) (pe_op op_fdiv (pv 2) (pv 3)))
        (pss_cons (ps_par (i := 2) (j := 3) (by rfl) scBack.nd rfl rfl (by decide) rfl rfl (pa_cons (pv 3) (pa_cons (pe_op op_sub (pv 2) (pe_op op_mul (pv 6) (pv 3))) pa_nil)) (by rfl))
        (pss_one (ps_par (i := 4) (j := 5) (by rfl) scBack.nd rfl rfl (by decide) rfl rfl (pa_cons (pv 5) (pa_cons (pe_op op_sub (pv 4) (pe_op op_mul (pv 6) (pv 5))) pa_nil)) (by rfl))))))
      (pss_cons (ps_if (pt_cmpR op_ne (pv 2) pe_int (nomark _)) pss_never pss_nil)
      (pss_cons (ps_set (i := 4) scBack.nd rfl (.inl rfl) (pe_op op_mod (pv 4) (pv 1)))
      (pss_cons (ps_if (pt_cmpR op_eq (pv 4) pe_int (nomark _)) (pss_one (ps_ret (pv 1))) pss_nil)
      (pss_one (ps_ret (pv 4)))))))))), ?_⟩
    have qpos : (0 : Int) < (q : Int) := by omega
    refine ⟨_, rfl, _, rfl, _, rfl, _, _, rfl, rfl, qpos, ?_⟩
    refine ⟨fun m σ H' => ∃ (one other before now : Int) (y : Option V), σ = [some (vN p), some (vN q), some (.int one), some (.int other), some (.int before), some (.int now), y] ∧ 0 ≤ one ∧ one ≤ 420 ∧ 0 ≤ other ∧ other ≤ 420 ∧ backF m one other before now = some (1, b) ∧ H' = H,
      ⟨30, _, _, _, _, none, rfl, by omega, by omega, Int.emod_nonneg _ (by omega), by have := Int.emod_lt_of_pos (p : Int) qpos; omega, hB, rfl⟩, fun m σ H1 hW => ?_⟩
    obtain ⟨one, other, before, now, y, rfl, h1, h2, h3, h4, hm, rfl⟩ := hW
    cases m with
    | zero => cases hm
    | succ m =>
    unfold backF at hm
    refine ⟨_, rfl, _, _, rfl, rfl, _, rfl, ite2 (fun e => ?_) (fun e => ?_)⟩
    · have e1 : 0 < other := of_decide_eq_true e
      rw [if_pos e1] at hm
      refine ⟨fun σ H' => ∃ (one other before now : Int) (y : Option V), σ = [some (vN p), some (vN q), some (.int one), some (.int other), some (.int before), some (.int now), y] ∧ 0 ≤ one ∧ one ≤ 420 ∧ 0 ≤ other ∧ other ≤ 420 ∧ backF m one other before now = some (1, b) ∧ H' = H1,
        fun σ' H' hN => ⟨m, Nat.lt_succ_self m, hN⟩, ?_⟩
      have d0 : 0 ≤ one / other := Int.ediv_nonneg h1 h3
      have d1 : one / other ≤ 420 := Int.le_trans (Int.ediv_le_self _ h1) h2
      have dm := Int.mul_ediv_add_emod one other
      have m0 := Int.emod_nonneg one (show other ≠ 0 by omega)
      have m1 := Int.emod_lt_of_pos one e1
      refine ⟨_, rfl, _, rfl, _, _, rfl, rfl, ⟨e1, (by show other < 1073741824; omega)⟩, ?_⟩
      refine ⟨_, rfl, _, rfl, _, rfl, _, rfl, _, _, rfl, rfl, .inl ⟨by omega, by omega⟩, _, _, rfl, rfl, _, _, rfl, ?_⟩
      refine ⟨_, rfl, _, rfl, _, rfl, _, rfl, _, _, rfl, rfl, .inl ⟨by omega, by omega⟩, _, _, rfl, rfl, _, _, rfl, ?_⟩
      refine ⟨_, _, _, _, _, rfl, h3, h4, ?_, ?_, hm, rfl⟩
      · rw [Int.mul_comm]; omega
      · rw [Int.mul_comm]; omega
    · have e1 : ¬ 0 < other := fun z => e (decide_eq_true z)
      rw [if_neg e1] at hm
      cases hm
      refine ⟨_, rfl, rfl, _, rfl, iteNS rfl ?_⟩
      refine ⟨_, rfl, _, rfl, _, _, rfl, rfl, qpos, ?_⟩
      refine ⟨_, rfl, rfl, _, rfl, ite2 (fun e => ?_) (fun e => ?_)⟩
      · have e2 : b % (q : Int) = 0 := V.int.inj (of_decide_eq_true e)
        rw [if_pos e2] at er
        refine ⟨_, rfl, ?_⟩
        show Q (.int (q : Int)) H1
        rw [← er]
        exact k
      · have e2 : ¬ b % (q : Int) = 0 := fun z => e (decide_eq_true (congrArg V.int z))
        rw [if_neg e2] at er
        refine ⟨_, rfl, ?_⟩
        show Q (.int (b % (q : Int))) H1
        rw [← er]
        exact k
end
end EH
namespace EH
open PySem PySem.Spec PyProof.Rows L2
theorem TupsAt.at {H : Hp} {ts : List Addr} {l : List (Nat × Nat)} (h : TupsAt H ts l) {i : Nat} {x : V} (e : (ts.map V.ref)[i]? = some x) : ∃ (t : Addr) (r : Nat × Nat), x = .ref t ∧ l[i]? = some r ∧ H t = some (.tup [vN r.1, vN r.2]) ∧ i < l.length := by
  rw [List.getElem?_map] at e
  cases h1 : ts[i]? with
  | none => rw [h1] at e; cases e
  | some t =>
    rw [h1] at e
    have hi := (List.getElem?_eq_some_iff.mp h1).1
    have hl : i < l.length := by rw [← h.1]; exact hi
    exact ⟨t, l[i], (Option.some.inj e).symm, List.getElem?_eq_getElem hl, h.2 i t _ h1 (List.getElem?_eq_getElem hl), hl⟩
theorem take_map_snoc {α : Type} {l : List α} {f : α → V} {i : Nat} {r : α} (h : l[i]? = some r) : (l.take i).map f ++ [f r] = (l.take (i + 1)).map f := by
  rw [List.take_add_one, h, List.map_append]; rfl
section
variable {P : Program} {w : World} {K : PySem.W.Frag} {mg : Str → Option Value} {base : Heap}
def spPr : Sp := fun vs H Q _ => ∃ n : Nat, vs = [vN n] ∧ 1 ≤ n ∧ n ≤ 420 ∧ (EH.P n).length ≤ 2 ∧ ∀ (H' : Hp) (a : Addr), Same H H' → H a = none → H' a = some (.lst (vNs (EH.P n))) → Q (.ref a) H'
theorem ok_prR {f fP : Addr} {fd fdP : FuncData} (F : Fun K "primes_of" "primes_of" sPrR f fd) (FP : Fun K "parts" "parts" sParts fP fdP) (bP : Binds K fdP ["n"] []) (gP : mg "parts" = some (.ref fP)) : FnOk P w K mg base CX0 2 f fd ["n"] spPr := by
  have GP : FnOk P w K mg base CX0 1 fP fdP ["n"] spParts := ok_parts FP
  refine F.ok scPrR (fun vs H Q E h => ?_) (fun cdv A outer s H vs Q E hr h => ?_)
  · obtain ⟨n, rfl, _⟩ := h
    rfl
  · obtain ⟨n, rfl, hn1, hn2, hl2, k⟩ := h
    refine ⟨_, pss_one (ps_ret (pe_lc (own := [("part", 1)]) (g := gName 1) (tt := tYes) (by rfl) scPrR.nd (pi_list (pe_call GP hr (by rfl) gP FP.kp bP .nil pass0 (pa_cons (pv 0) pa_nil)))
      (blkOk_by (own := [("part", 1)]) (N := ["n", "part"]) (sc := defScope sPrR) (by decide +kernel)) (fun _ _ _ _ _ => pg_name (i := 1) scPrR.nd rfl (Or.inl rfl)) (fun _ _ _ _ _ => pts_nil)
      (fun _ _ _ _ _ => pe_ix (r := rIxT K) ix_tup (pv 1) pe_int (fun _ _ => rfl)))), ?_⟩
    refine ⟨_, rfl, n, rfl, hn1, hn2, fun H1 p ts sm hp ep ht => ?_⟩
    refine ⟨p, rfl, ⟨_, .of ep⟩, fun D hD => ?_⟩
    have spD : p ≠ D := ne_of_none ep hD
    refine lc_list (K := K) (a := p) (xs := ts.map V.ref) (fun i H' => Same H H' ∧ H' p = some (.lst (ts.map V.ref)) ∧ TupsAt H' ts (partsL n) ∧ H' D = some (.lst (((partsL n).take i).map fun r => vN r.1))) ?_ (fun i H' _ hP => .of hP.2.1) ?_ ?_
    · exact ⟨sm.trans (same_upd hD), (upd_ne spD).trans ep, ht.keep fun a xs e => same_upd hD _ _ e, upd_same⟩
    · rintro i x H2 hx ⟨s2, e2, t2, d2⟩
      obtain ⟨t, r, rfl, hr', hT, hi⟩ := t2.at hx
      refine ⟨rfl, _, rfl, t, _, 0, vN r.1, rfl, rfl, .of hT, atI_nat (j := 0) rfl, ?_⟩
      have hlen : (partsL n).length ≤ 2 := by
        have := hl2
        unfold EH.P at this
        simpa using this
      refine ⟨_, d2, ?_, ?_⟩
      · rw [List.length_map, List.length_take]
        exact small1000 (by omega)
      · refine ⟨fun b o e => ?_, (upd_ne spD).trans e2, t2.keep fun a xs e => ?_, ?_⟩
        · rw [upd_ne (ne_of_none (sm b o e) hD)]
          exact s2 b o e
        · rw [upd_ne (ne_of e d2 (by intro z; cases z))]
          exact e
        · rw [upd_same, take_map_snoc hr']
    · rintro H2 ⟨s2, e2, t2, d2⟩
      refine k H2 D s2 (sm.free hD) ?_
      rw [d2, List.take_of_length_le (by rw [List.length_map, t2.1]; exact Nat.le_refl _)]
      unfold EH.P vNs
      rw [List.map_map]
      rfl
theorem ok_prS {f fP : Addr} {fd fdP : FuncData} (F : Fun K "primes_of" "primes_of" sPrS f fd) (FP : Fun K "parts" "parts" sParts fP fdP) (bP : Binds K fdP ["n"] []) (gP : mg "parts" = some (.ref fP)) (ml : mg "len" = none) : FnOk P w K mg base CX0 2 f fd ["n"] spPr := by
  have GP : FnOk P w K mg base CX0 1 fP fdP ["n"] spParts := ok_parts FP
  refine F.ok scPrS (fun vs H Q E h => ?_) (fun cdv A outer s H vs Q E hr h => ?_)
  · obtain ⟨n, rfl, _⟩ := h
    rfl
  · obtain ⟨n, rfl, hn1, hn2, hl2, k⟩ := h
    refine ⟨_, pss_cons (ps_setLc (i := 1) (own := [("p", 2), ("full", 3)]) (g := gTup K 2 (gCons (gName 2) (gCons (gName 3) gNil))) (tt := tYes) (by rfl) scPrS.nd rfl rfl (sw_true rfl rfl rfl (by decide +kernel)) (pi_list (pe_call GP hr (by rfl) gP FP.kp bP .nil pass0 (pa_cons (pv 0) pa_nil)))
      (blkOk_by (own := [("p", 2), ("full", 3)]) (N := ["n", "found", "p", "full"]) (sc := defScope sPrS) (by decide +kernel)) (fun _ _ _ _ _ => pg_tup rfl (pgs_cons (pg_name (i := 2) scPrS.nd rfl (.inl rfl)) (pgs_cons (pg_name (i := 3) scPrS.nd rfl (.inl rfl)) pgs_nil))) (fun _ _ _ _ _ => pts_nil)
      (fun _ _ _ _ _ => pv 2))
      (pss_cons (ps_if (pt_cmpR op_gt (pe_callB call_len_seq (by rfl) ml PySem.boot_len (pa_cons (pv 1) pa_nil)) pe_int (nomark _)) pss_never pss_nil)
      (pss_one (ps_ret (pv 1)))), ?_⟩
    refine ⟨_, rfl, n, rfl, hn1, hn2, fun H1 p ts sm hp ep ht => ?_⟩
    refine ⟨p, rfl, ⟨_, .of ep⟩, fun D hD => ?_⟩
    have spD : p ≠ D := ne_of_none ep hD
    refine lc_list (K := K) (a := p) (xs := ts.map V.ref) (fun i H' => Same H H' ∧ H' p = some (.lst (ts.map V.ref)) ∧ TupsAt H' ts (partsL n) ∧ H' D = some (.lst (((partsL n).take i).map fun r => vN r.1))) ?_ (fun i H' _ hP => .of hP.2.1) ?_ ?_
    · exact ⟨sm.trans (same_upd hD), (upd_ne spD).trans ep, ht.keep fun a xs e => same_upd hD _ _ e, upd_same⟩
    · rintro i x H2 hx ⟨s2, e2, t2, d2⟩
      obtain ⟨t, r, rfl, hr', hT, hi⟩ := t2.at hx
      refine ⟨t, _, rfl, .of hT, rfl, _, _, rfl, _, _, rfl, rfl, rfl, _, rfl, ?_⟩
      have hlen : (partsL n).length ≤ 2 := by
        have := hl2
        unfold EH.P at this
        simpa using this
      refine ⟨_, d2, ?_, ?_⟩
      · rw [List.length_map, List.length_take]
        exact small1000 (by omega)
      · refine ⟨fun b o e => ?_, (upd_ne spD).trans e2, t2.keep fun a xs e => ?_, ?_⟩
        · rw [upd_ne (ne_of_none (sm b o e) hD)]
          exact s2 b o e
        · rw [upd_ne (ne_of e d2 (by intro z; cases z))]
          exact e
        · rw [upd_same, take_map_snoc hr']
    · rintro H2 ⟨s2, e2, t2, d2⟩
      rw [List.take_of_length_le (by rw [List.length_map, t2.1]; exact Nat.le_refl _)] at d2
      have hlen : (partsL n).length ≤ 2 := by
        have := hl2
        unfold EH.P at this
        simpa using this
      refine ⟨_, rfl, D, _, rfl, .inl (.of d2), _, _, rfl, rfl, _, rfl, ite2 (fun e => ?_) (fun e => ?_)⟩
      · have := of_decide_eq_true e
        rw [List.length_map] at this
        omega
      · refine ⟨_, rfl, ?_⟩
        refine k H2 D s2 (sm.free hD) ?_
        rw [d2]
        unfold EH.P vNs
        rw [List.map_map]
        rfl
end
end EH
namespace EH
open PySem PySem.Spec PyProof.Rows L2
theorem upd_self {H : Hp} {a : Addr} {o : HO} (h : H a = some o) : upd H a o = H := by
  funext b
  unfold upd
  by_cases e : b = a
  · rw [if_pos e, e, h]
  · rw [if_neg e]
theorem ixN_nat {n j : Nat} (h : j < n) : ixN n (j : Int) = some j := by
  unfold ixN
  rw [if_pos (by omega), if_pos (by omega)]
  simp
theorem vIs_at {l : List Int} {j : Nat} (h : j < l.length) : (vIs l)[j]? = some (.int (l.getD j 0)) := by
  unfold vIs
  rw [List.getElem?_map, List.getElem?_eq_getElem h]
  simp [List.getD_eq_getElem?_getD, h]
theorem vIs_bump {l : List Int} {j : Nat} : (vIs l).set j (.int (l.getD j 0 + 1)) = vIs (bump l j) := by
  unfold vIs bump
  rw [List.map_set]
theorem size420 {n : Nat} (h : n ≤ 1000) : n ≤ sizeLine := Nat.le_of_lt (small1000 h)
def RowsAt (H : Hp) (ts : List Addr) (l : List (Nat × Nat)) : Prop := ts.length = l.length ∧ ∀ (i : Nat) (t : Addr) (r : Nat × Nat), ts[i]? = some t → l[i]? = some r → H t = some (.tup [vN r.1, vN r.2, .int 1])
theorem RowsAt.nil {H : Hp} : RowsAt H [] [] := ⟨rfl, fun i t r h => by simp at h⟩
theorem RowsAt.snoc {H H' : Hp} {ts : List Addr} {l : List (Nat × Nat)} (h : RowsAt H ts l) {t : Addr} {r : Nat × Nat} (k : ∀ a xs, H a = some (.tup xs) → H' a = some (.tup xs)) (e : H' t = some (.tup [vN r.1, vN r.2, .int 1])) : RowsAt H' (ts ++ [t]) (l ++ [r]) := by
  refine ⟨by simp [h.1], fun i t' r' h1 h2 => ?_⟩
  by_cases hi : i < ts.length
  · rw [List.getElem?_append_left hi] at h1
    rw [List.getElem?_append_left (by rw [← h.1]; exact hi)] at h2
    exact k _ _ (h.2 i t' r' h1 h2)
  · rw [List.getElem?_append_right (by omega)] at h1
    rw [List.getElem?_append_right (by rw [← h.1]; omega)] at h2
    rw [← h.1] at h2
    have hz : i - ts.length = 0 := by
      rcases Nat.eq_zero_or_pos (i - ts.length) with z | z
      · exact z
      · rw [List.getElem?_eq_none (by simp; omega)] at h1; cases h1
    rw [hz] at h1 h2
    cases h1
    cases h2
    exact e
theorem RowsAt.keep {H H' : Hp} {ts : List Addr} {l : List (Nat × Nat)} (h : RowsAt H ts l) (k : ∀ a xs, H a = some (.tup xs) → H' a = some (.tup xs)) : RowsAt H' ts l := ⟨h.1, fun i t r a b => k _ _ (h.2 i t r a b)⟩
theorem RowsAt.at {H : Hp} {ts : List Addr} {l : List (Nat × Nat)} (h : RowsAt H ts l) {i : Nat} {x : V} (e : (ts.map V.ref)[i]? = some x) : ∃ (t : Addr) (r : Nat × Nat), x = .ref t ∧ l[i]? = some r ∧ H t = some (.tup [vN r.1, vN r.2, .int 1]) ∧ i < l.length := by
  rw [List.getElem?_map] at e
  cases h1 : ts[i]? with
  | none => rw [h1] at e; cases e
  | some t =>
    rw [h1] at e
    have hi := (List.getElem?_eq_some_iff.mp h1).1
    have hl : i < l.length := by rw [← h.1]; exact hi
    exact ⟨t, l[i], (Option.some.inj e).symm, List.getElem?_eq_getElem hl, h.2 i t _ h1 (List.getElem?_eq_getElem hl), hl⟩
theorem flat_rep (n : Nat) : (List.replicate n [V.int 0]).flatten = vIs (List.replicate n 0) := by
  unfold vIs
  rw [List.map_replicate]
  induction n with
  | zero => rfl
  | succ n ih => rw [List.replicate_succ, List.flatten_cons, ih, List.replicate_succ]; rfl
theorem load_snoc {n : Nat} {rows : List (Nat × Nat)} {i : Nat} {r : Nat × Nat} (h : rows[i]? = some r) : loadL n (holes n (rows.take (i + 1))) = (ringH n r.1 r.2).foldl bump (loadL n (holes n (rows.take i))) := by
  rw [List.take_add_one, h]
  unfold loadL
  rw [holes_append, List.foldl_append]
  show List.foldl bump _ (ringH n r.1 r.2 ++ []) = _
  rw [List.append_nil]
theorem inV_nat {p : Nat} {l : List Nat} (h : p ∈ l) : inV (vN p) (vNs l) = true := by
  unfold inV
  refine List.any_eq_true.mpr ⟨vN p, List.mem_map.mpr ⟨p, h, rfl⟩, ?_⟩
  show ((p : Int) == (p : Int)) = true
  simp
theorem flat_nat (l : List Nat) : (vNs l).all flatV = true := by
  refine List.all_eq_true.mpr fun x hx => ?_
  obtain ⟨p, _, rfl⟩ := List.mem_map.mp hx
  rfl
section
variable {P : Program} {w : World} {K : PySem.W.Frag} {mg : Str → Option Value} {base : Heap}
def spAddR : Sp := fun vs H Q _ => ∃ (a : Addr) (l : List Int) (n p s : Nat), vs = [.ref a, vN p, vN s, .int 1] ∧ l.length = n ∧ 1 ≤ n ∧ n ≤ 1000 ∧ 1 ≤ p ∧ p ≤ 1000 ∧ H a = some (.lst (vIs l)) ∧ Q .non (upd H a (.lst (vIs ((ringH n p s).foldl bump l))))
theorem ok_addR {f : Addr} {fd : FuncData} (F : Fun K "add_ring" "add_ring" sAddR f fd) (ml : mg "len" = none) (mr : mg "range" = none) : FnOk P w K mg base CX0 1 f fd ["load", "p", "hole", "many"] spAddR := by
  refine F.ok scAddR (fun vs H Q E h => ?_) (fun cdv A outer s H vs Q E hr h => ?_)
  · obtain ⟨a, l, n, p, s, rfl, _⟩ := h
    rfl
  · obtain ⟨a, l, n, p, z, rfl, hl, hn1, hn2, hp1, hp2, hH, k⟩ := h
    refine ⟨_, pss_cons (ps_set (i := 4) scAddR.nd rfl (.inl rfl) (pe_callB call_len_seq (by rfl) ml PySem.boot_len (pa_cons (pv 0) pa_nil)))
      (pss_one (ps_for PassesOwn.never rfl (pi_range1 (by rfl) mr (pa_cons (pv 1) pa_nil)) (pg_name (i := 5) scAddR.nd rfl (.inl rfl))
        (pss_cons (ps_set (i := 6) scAddR.nd rfl (.inl rfl) (pe_op op_mod (pe_op op_add (pv 2) (pe_op op_mul (pv 5) (pe_op op_fdiv (pv 4) (pv 1)))) (pv 4)))
        (pss_one (ps_asg (pe_op op_add (pe_ix ix_list (pv 0) (pv 6) (fun _ _ => rfl)) (pv 3)) (pg_sub (pv 0) (pv 6) set_list)))))), ?_⟩
    refine ⟨_, rfl, a, _, rfl, .inl (.of hH), ?_⟩
    have el : (vIs l).length = n := by rw [List.length_map]; exact hl
    refine ⟨_, rfl, _, rfl, (by show -(2 ^ 62) ≤ (p : Int); omega), (by show (p : Int) < 2 ^ 62; omega), for_range (lo := 0) (n := p) (fun i σ H' => ∃ y5 y6, σ = [some (.ref a), some (vN p), some (vN z), some (.int 1), some (vN n), y5, y6] ∧ H' = upd H a (.lst (vIs (((ringH n p z).take i).foldl bump l)))) ⟨none, none, ?_, ?_⟩ ?_ ?_⟩
    · show [some (V.ref a), some (vN p), some (vN z), some (.int 1), some (.int ((vIs l).length : Int)), none, none] = _
      rw [el]
    · exact (upd_self hH).symm
    · rintro i σ H2 hi ⟨y5, y6, rfl, rfl⟩
      rw [Int.zero_add]
      have hx : (z + i * (n / p)) % n < n := Nat.mod_lt _ hn1
      have hlen : (((ringH n p z).take i).foldl bump l).length = n := by rw [fold_length]; exact hl
      have hi' : (ringH n p z)[i]? = some ((z + i * (n / p)) % n) := by
        unfold ringH
        rw [List.getElem?_map, List.getElem?_range hi]; rfl
      refine ⟨_, rfl, _, rfl, _, rfl, _, rfl, _, _, rfl, rfl, ⟨(by show (0 : Int) < (p : Int); omega), (by show (p : Int) < 1073741824; omega)⟩, _, _, rfl, rfl, small64 (by omega), _, _, rfl, rfl, _, rfl, _, _, rfl, rfl, (by show (0 : Int) < (n : Int); omega), ?_⟩
      refine ⟨_, rfl, _, rfl, a, _, _, _, rfl, rfl, .of upd_same, at_of (j := (z + i * (n / p)) % n) rfl (vIs_at (by rw [hlen]; exact hx)), _, rfl, _, _, rfl, rfl, ?_⟩
      refine ⟨_, rfl, _, rfl, a, _, _, (z + i * (n / p)) % n, rfl, rfl, upd_same, ?_, ?_⟩
      · rw [List.length_map, hlen]
        exact ixN_nat hx
      · refine ⟨_, _, rfl, ?_⟩
        rw [upd_upd, vIs_bump, List.take_add_one, hi', List.foldl_append]
        rfl
    · rintro σ H2 ⟨y5, y6, rfl, rfl⟩
      rw [List.take_of_length_le (by rw [ring_length]; exact Nat.le_refl _)]
      exact k
def spLaid : Sp := fun vs H Q _ => ∃ (n : Nat) (b : Addr) (ts : List Addr) (rows : List (Nat × Nat)), vs = [vN n, .ref b] ∧ Good n ∧ H b = some (.lst (ts.map V.ref)) ∧ RowsAt H ts rows ∧ (∀ r ∈ rows, r.1 ∈ EH.P n) ∧
  ∀ (H' : Hp) (a : Addr), Same H H' → H a = none → H' a = some (.lst (vIs (loadL n (holes n rows)))) → Q (.ref a) H'
theorem ok_laid {f fR fA : Addr} {fd fdR fdA : FuncData} (F : Fun K "laid" "laid" sLaid f fd) (GR : FnOk P w K mg base CX0 2 fR fdR ["n"] spPr) (kR : PySem.W.keepIn K (.ref fR) = true) (bR : Binds K fdR ["n"] []) (gR : mg "primes_of_rings" = some (.ref fR))
    (GA : FnOk P w K mg base CX0 1 fA fdA ["load", "p", "hole", "many"] spAddR) (kA : PySem.W.keepIn K (.ref fA) = true) (bA : Binds K fdA ["load", "p", "hole", "many"] []) (gA : mg "add_ring" = some (.ref fA)) : FnOk P w K mg base CX0 3 f fd ["n", "rows"] spLaid := by
  refine F.ok scLaid (fun vs H Q E h => ?_) (fun cdv A outer s H vs Q E hr h => ?_)
  · obtain ⟨n, b, ts, rows, rfl, _⟩ := h
    rfl
  · obtain ⟨n, b, ts, rows, rfl, hG, hb, hT, hP, k⟩ := h
    refine ⟨_, pss_cons (ps_set (i := 2) scLaid.nd rfl (.inl rfl) (pe_call GR hr (by rfl) gR kR bR .nil pass0 (pa_cons (pv 0) pa_nil)))
      (pss_cons (ps_set (i := 3) scLaid.nd rfl (.inl rfl) (pe_op op_rep (pe_lst (pa_cons pe_int pa_nil)) (pv 0)))
      (pss_cons (ps_for PassesOwn.never rfl (pi_list (pv 1)) (pg_tup rfl (pgs_cons (pg_name (i := 4) scLaid.nd rfl (.inl rfl)) (pgs_cons (pg_name (i := 5) scLaid.nd rfl (.inl rfl)) (pgs_cons (pg_name (i := 6) scLaid.nd rfl (.inl rfl)) pgs_nil))))
        (pss_cons (ps_if (pt_cmpR op_notIn_seq (pv 4) (pv 2) (by rfl)) pss_never pss_nil)
        (pss_one (ps_expr (pe_call GA (hr.mono (by decide)) (by rfl) gA kA bA .nil pass0 (pa_cons (pv 3) (pa_cons (pv 4) (pa_cons (pv 5) (pa_cons (pv 6) pa_nil)))))))))
      (pss_one (ps_ret (pv 3))))), ?_⟩
    have n1 := hG.lo
    have n2 := hG.hi
    refine ⟨_, rfl, n, rfl, n1, n2, hG.few, fun H1 c s1 hc ec => ?_⟩
    refine ⟨(by show 1 ≤ sizeLine; decide), fun l0 hl0 => ?_⟩
    refine ⟨_, rfl, l0, _, _, rfl, rfl, upd_same, (by omega), (by omega), ?_, fun o no => ?_⟩
    · show 1 * n ≤ sizeLine
      exact size420 (by omega)
    have e0 : (List.replicate ((n : Int)).toNat [V.int 0]).flatten = vIs (loadL n (holes n (rows.take 0))) := flat_rep n
    have so : Same H (upd (upd H1 l0 (.lst [.int 0])) o (.lst (vIs (loadL n (holes n (rows.take 0)))))) := s1.trans ((same_upd hl0).trans (same_upd no))
    have nHo : H o = none := s1.free ((same_upd hl0).free no)
    have nco : c ≠ o := ne_of_none (same_upd hl0 _ _ ec) no
    rw [e0]
    refine ⟨_, rfl, b, rfl, ⟨_, .of (so _ _ hb)⟩, for_list (K := K) (a := b) (xs := ts.map V.ref) (fun i σ H' => ∃ y4 y5 y6, σ = [some (vN n), some (.ref b), some (.ref c), some (.ref o), y4, y5, y6] ∧ Same H H' ∧ H' c = some (.lst (vNs (EH.P n))) ∧ H' o = some (.lst (vIs (loadL n (holes n (rows.take i))))))
      ⟨none, none, none, rfl, so, (upd_ne nco).trans (same_upd hl0 _ _ ec), upd_same⟩ (fun i σ H' _ ⟨_, _, _, _, sm, _⟩ => .of (sm _ _ hb)) ?_ ?_⟩
    · rintro i x σ H2 hx ⟨y4, y5, y6, rfl, sm, e2, d2⟩
      obtain ⟨t, r, rfl, hr', hTu, hi⟩ := (hT.keep fun a xs e => sm a _ e).at hx
      have hmem : r ∈ rows := List.mem_of_getElem? hr'
      have hrp := hG.f.two _ (hP r hmem)
      refine ⟨t, _, rfl, .of hTu, rfl, _, _, rfl, _, _, rfl, _, _, rfl, rfl, ?_⟩
      refine ⟨_, rfl, _, rfl, c, _, rfl, .inl (.of e2), rfl, flat_nat _, _, rfl, ?_⟩
      rw [inV_nat (hP r hmem)]
      refine iteF ?_
      refine ⟨_, rfl, _, rfl, _, rfl, _, rfl, o, _, n, r.1, r.2, rfl, load_length _ _, n1, by omega, by omega, by omega, d2, ?_⟩
      refine ⟨_, _, _, rfl, fun a z e => ?_, ?_, ?_⟩
      · rw [upd_ne (ne_of_none e nHo)]
        exact sm _ _ e
      · rw [upd_ne nco]
        exact e2
      · rw [upd_same, load_snoc hr']
    · rintro σ H2 ⟨y4, y5, y6, rfl, sm, e2, d2⟩
      rw [List.take_of_length_le (by rw [List.length_map, hT.1]; exact Nat.le_refl _)] at d2
      exact ⟨_, rfl, k H2 o sm nHo d2⟩
end
end EH
namespace EH
open PySem PySem.Spec PyProof.Rows L2
theorem psM_pos {n : Nat} {many : Int} {c : List Int} (h : psM n many = some c) : 0 ≤ many := by
  unfold psM at h
  by_cases z : many < 0
  · rw [if_pos z] at h; cases h
  · omega
theorem psM_one {n p : Nat} {many : Int} {c : List Int} (hp : 2 ≤ p) (hl : EH.P n = [p]) (h : psM n many = some c) : ∃ a : Nat, c = [(a : Int)] ∧ ((a * p : Nat) : Int) = many := by
  have z := psM_pos h
  unfold psM at h
  rw [if_neg (by omega), hl] at h
  simp only at h
  split at h
  · rename_i hd
    cases h
    have h3 := Int.mul_ediv_cancel' (Int.dvd_of_emod_eq_zero hd)
    have h4 : 0 ≤ many / (p : Int) := Int.ediv_nonneg z (by omega)
    obtain ⟨a, ha⟩ := Int.eq_ofNat_of_zero_le h4
    refine ⟨a, by rw [ha], ?_⟩
    rw [ha] at h3
    rw [Int.natCast_mul, Int.mul_comm]; exact h3
  · cases h
theorem psM_two {n p q r : Nat} {many : Int} {c : List Int} (hp : 2 ≤ p) (hq : 2 ≤ q) (hl : EH.P n = [p, q]) (hr : backM p q = some (r : Int)) (r1 : r * p % q = 1) (h : psM n many = some c) : ∃ a b : Nat, c = [(a : Int), (b : Int)] ∧ a < q ∧ ((a * p + b * q : Nat) : Int) = many := by
  have z := psM_pos h
  unfold psM at h
  rw [if_neg (by omega), hl] at h
  simp only [hr, Option.getD_some] at h
  split at h
  · cases h
  · rename_i hd
    cases h
    have a0 := Int.emod_nonneg (many * (r : Int)) (show (q : Int) ≠ 0 by omega)
    have a1 := Int.emod_lt_of_pos (many * (r : Int)) (show (0 : Int) < (q : Int) by omega)
    have s1 := Int.mul_ediv_cancel' (few_div hq r1 many)
    have c0 : 0 ≤ (many - many * (r : Int) % (q : Int) * (p : Int)) / (q : Int) := Int.ediv_nonneg (by omega) (by omega)
    generalize (many - many * (r : Int) % (q : Int) * (p : Int)) / (q : Int) = B at s1 c0 ⊢
    generalize many * (r : Int) % (q : Int) = A at s1 a0 a1 ⊢
    obtain ⟨a, rfl⟩ := Int.eq_ofNat_of_zero_le a0
    obtain ⟨b, rfl⟩ := Int.eq_ofNat_of_zero_le c0
    refine ⟨a, b, rfl, by omega, ?_⟩
    rw [Int.natCast_add, Int.natCast_mul, Int.natCast_mul, Int.mul_comm (b : Int)]; omega
/-- None, or a new list of numbers -/
def OptAt (H H' : Hp) (v : V) : Option (List Int) → Prop
  | none => v = .non
  | some l => ∃ a, v = .ref a ∧ H a = none ∧ H' a = some (.lst (vIs l))
section
variable {P : Program} {w : World} {K : PySem.W.Frag} {mg : Str → Option Value} {base : Heap}
def spPSum : Sp := fun vs H Q _ => ∃ (n : Nat) (many : Int), vs = [vN n, .int many] ∧ Good n ∧ ∀ (H' : Hp) (v : V), Same H H' → OptAt H H' v (psM n many) → Q v H'
theorem ok_psum {f fR fB : Addr} {fd fdR fdB : FuncData} (F : Fun K "prime_sum" "prime_sum" sPSum f fd) (GR : FnOk P w K mg base CX0 2 fR fdR ["n"] spPr) (kR : PySem.W.keepIn K (.ref fR) = true) (bR : Binds K fdR ["n"] []) (gR : mg "primes_of_stacks" = some (.ref fR))
    (GB : FnOk P w K mg base CX0 1 fB fdB ["step", "n"] spBack) (kB : PySem.W.keepIn K (.ref fB) = true) (bB : Binds K fdB ["step", "n"] []) (gB : mg "back" = some (.ref fB)) (ml : mg "len" = none) : FnOk P w K mg base CX0 3 f fd ["n", "many"] spPSum := by
  refine F.ok scPSum (fun vs H Q E h => ?_) (fun cdv A outer s H vs Q E hr h => ?_)
  · obtain ⟨n, many, rfl, _⟩ := h
    rfl
  · obtain ⟨n, many, rfl, hG, k⟩ := h
    refine ⟨_, pss_cons (ps_set (i := 2) scPSum.nd rfl (.inl rfl) (pe_call GR hr (by rfl) gR kR bR .nil pass0 (pa_cons (pv 0) pa_nil)))
      (pss_cons (ps_if (pt_cmpR op_lt (pv 1) pe_int (nomark _)) (pss_one (ps_ret pe_non)) pss_nil)
      (pss_cons (ps_if (pt_cmpR op_eq (pe_callB call_len_seq (by rfl) ml PySem.boot_len (pa_cons (pv 2) pa_nil)) pe_int (nomark _))
        (pss_cons (ps_if (pt_cmpR op_eq (pv 1) pe_int (nomark _)) (pss_one (ps_ret (pe_lst pa_nil))) pss_nil) (pss_one (ps_ret pe_non))) pss_nil)
      (pss_cons (ps_if (pt_cmpR op_eq (pe_callB call_len_seq (by rfl) ml PySem.boot_len (pa_cons (pv 2) pa_nil)) pe_int (nomark _))
        (pss_cons (ps_if (pt_cmpR op_eq (pe_op op_mod (pv 1) (pe_ix ix_list (pv 2) pe_int (fun _ _ => rfl))) pe_int (nomark _)) (pss_one (ps_ret (pe_lst (pa_cons (pe_op op_fdiv (pv 1) (pe_ix ix_list (pv 2) pe_int (fun _ _ => rfl))) pa_nil)))) pss_nil) (pss_one (ps_ret pe_non))) pss_nil)
      (pss_cons (ps_asg (pv 2) (pg_unl rfl (pgs_cons (pg_name (i := 3) scPSum.nd rfl (.inl rfl)) (pgs_cons (pg_name (i := 4) scPSum.nd rfl (.inl rfl)) pgs_nil))))
      (pss_cons (ps_set (i := 5) scPSum.nd rfl (.inl rfl) (pe_op op_mod (pe_op op_mul (pv 1) (pe_call GB (hr.mono (by decide)) (by rfl) gB kB bB .nil pass0 (pa_cons (pv 3) (pa_cons (pv 4) pa_nil)))) (pv 4)))
      (pss_cons (ps_if (pt_cmpR op_gt (pe_op op_mul (pv 5) (pv 3)) (pv 1) (nomark _)) (pss_one (ps_ret pe_non)) pss_nil)
      (pss_one (ps_ret (pe_lst (pa_cons (pv 5) (pa_cons (pe_op op_fdiv (pe_op op_sub (pv 1) (pe_op op_mul (pv 5) (pv 3))) (pv 4)) pa_nil))))))))))), ?_⟩
    have kd := hG.kind
    have hps : psM n many = psM n many := rfl
    conv at hps => rhs; unfold psM
    refine ⟨_, rfl, n, rfl, hG.lo, hG.hi, hG.few, fun H1 c s1 hc ec => ?_⟩
    refine ⟨_, rfl, _, _, rfl, rfl, _, rfl, ite2 (fun e => ?_) (fun e => ?_)⟩
    · have e0 : many < 0 := of_decide_eq_true e
      rw [if_pos e0] at hps
      rw [hps] at k
      exact k H1 .non s1 rfl
    · have e0 : ¬ many < 0 := fun z => e (decide_eq_true z)
      rw [if_neg e0] at hps
      generalize hl : EH.P n = l at kd ec hps
      cases kd with
      | nil hn =>
        simp only at hps
        refine ⟨_, rfl, c, _, rfl, .inl (.of ec), rfl, _, rfl, iteT ?_⟩
        refine ⟨_, rfl, rfl, _, rfl, ite2 (fun e => ?_) (fun e => ?_)⟩
        · rw [if_pos (V.int.inj (of_decide_eq_true e))] at hps
          rw [hps] at k
          refine ⟨Nat.zero_le _, fun a na => ?_⟩
          exact k _ _ (s1.trans (same_upd na)) ⟨a, rfl, s1.free na, upd_same⟩
        · rw [if_neg (fun z => e (decide_eq_true (congrArg V.int z)))] at hps
          rw [hps] at k
          exact k H1 .non s1 rfl
      | one p m hp pi hm en =>
        simp only at hps
        refine ⟨_, rfl, c, _, rfl, .inl (.of ec), rfl, _, rfl, iteF ?_⟩
        refine ⟨_, rfl, c, _, rfl, .inl (.of ec), rfl, _, rfl, iteT ?_⟩
        have ppos : (0 : Int) < (p : Int) := by omega
        refine ⟨_, rfl, _, rfl, c, _, 0, vN p, rfl, rfl, .of ec, atI_nat (j := 0) rfl, _, _, rfl, rfl, ppos, rfl, _, rfl, ite2 (fun e => ?_) (fun e => ?_)⟩
        · rw [if_pos (V.int.inj (of_decide_eq_true e))] at hps
          rw [hps] at k
          refine ⟨_, rfl, _, rfl, c, _, 0, vN p, rfl, rfl, .of ec, atI_nat (j := 0) rfl, _, _, rfl, rfl, ⟨ppos, (by show (p : Int) < 1073741824; omega)⟩, (by show 1 ≤ sizeLine; decide), fun a na => ?_⟩
          exact k _ _ (s1.trans (same_upd na)) ⟨a, rfl, s1.free na, upd_same⟩
        · rw [if_neg (fun z => e (decide_eq_true (congrArg V.int z)))] at hps
          rw [hps] at k
          exact k H1 .non s1 rfl
      | two p q g hp hq pi qi hg en co r hr' r1 r2 =>
        simp only [hr', Option.getD_some] at hps
        refine ⟨_, rfl, c, _, rfl, .inl (.of ec), rfl, _, rfl, iteF ?_⟩
        refine ⟨_, rfl, c, _, rfl, .inl (.of ec), rfl, _, rfl, iteF ?_⟩
        have qpos : (0 : Int) < (q : Int) := by omega
        have a0 := Int.emod_nonneg (many * (r : Int)) (show (q : Int) ≠ 0 by omega)
        have a1 := Int.emod_lt_of_pos (many * (r : Int)) qpos
        refine ⟨_, rfl, c, _, rfl, .of ec, rfl, _, _, rfl, _, _, rfl, rfl, ?_⟩
        refine ⟨_, rfl, _, rfl, _, rfl, p, q, r, rfl, hq, qi, hr', _, _, rfl, rfl, small64r (by omega), _, rfl, _, _, rfl, rfl, qpos, ?_⟩
        refine ⟨_, rfl, _, rfl, _, _, rfl, rfl, small64r (by omega), _, rfl, _, _, rfl, rfl, _, rfl, ite2 (fun e => ?_) (fun e => ?_)⟩
        · rw [if_pos (of_decide_eq_true e)] at hps
          rw [hps] at k
          exact k H1 .non s1 rfl
        · rw [if_neg (fun z => e (decide_eq_true z))] at hps
          rw [hps] at k
          refine ⟨_, rfl, _, rfl, _, rfl, _, rfl, _, _, rfl, rfl, small64r (by omega), _, _, rfl, rfl, _, rfl, _, _, rfl, rfl, ⟨qpos, (by show (q : Int) < 1073741824; omega)⟩, (by show 2 ≤ sizeLine; decide), fun a na => ?_⟩
          exact k _ _ (s1.trans (same_upd na)) ⟨a, rfl, s1.free na, upd_same⟩
end
end EH
namespace EH
open PySem PySem.Spec PyProof.Rows L2
theorem range_snoc {f : Nat → Nat × Nat} {i : Nat} : (List.range i).map f ++ [f i] = (List.range (i + 1)).map f := by
  rw [List.range_succ, List.map_append]; rfl
section
variable {P : Program} {w : World} {K : PySem.W.Frag} {mg : Str → Option Value} {base : Heap}
def spGrid : Sp := fun vs H Q _ => ∃ (n p q a b first : Nat) (pa ca : Addr), vs = [vN n, .ref pa, .ref ca, vN first] ∧ 1 ≤ n ∧ n ≤ 420 ∧ 2 ≤ p ∧ p ≤ 420 ∧ 2 ≤ q ∧ q ≤ 420 ∧ a ≤ 420 ∧ b ≤ 420 ∧ H pa = some (.lst [vN p, vN q]) ∧ H ca = some (.lst [vN a, vN b]) ∧
  ∀ (H' : Hp) (r : Addr) (ts : List Addr), Same H H' → H r = none → H' r = some (.lst (ts.map V.ref)) → RowsAt H' ts (gridL n p q a b first) → Q (.ref r) H'
theorem ok_grid {f : Addr} {fd : FuncData} (F : Fun K "grid_rows" "grid_rows" sGrid f fd) (mr : mg "range" = none) : FnOk P w K mg base CX0 1 f fd ["n", "primes", "counts", "first"] spGrid := by
  refine F.ok scGrid (fun vs H Q E h => ?_) (fun cdv A outer s H vs Q E hr h => ?_)
  · obtain ⟨n, p, q, a, b, first, pa, ca, rfl, _⟩ := h
    rfl
  · obtain ⟨n, p, q, a, b, first, pa, ca, rfl, hn1, hn2, hp1, hp2, hq1, hq2, ha, hb, hP, hC, k⟩ := h
    refine ⟨_, pss_cons (ps_asg (pv 1) (pg_unl rfl (pgs_cons (pg_name (i := 4) scGrid.nd rfl (.inl rfl)) (pgs_cons (pg_name (i := 5) scGrid.nd rfl (.inl rfl)) pgs_nil))))
      (pss_cons (ps_set (i := 6) scGrid.nd rfl (.inl rfl) (pe_lst pa_nil))
      (pss_cons (ps_for PassesOwn.never rfl (pi_range1 (by rfl) mr (pa_cons (pe_ix ix_list (pv 2) pe_int (fun _ _ => rfl)) pa_nil)) (pg_name (i := 7) scGrid.nd rfl (.inl rfl))
        (pss_one (ps_expr (pe_bm PySem.F.plainAttrs_list PySem.F.slot_list_append PySem.F.type_list_append mt_append (pv 6) (pa_cons (pe_tup (pa_cons (pv 4)
          (pa_cons (pe_op op_mod (pe_op op_add (pe_op op_fdiv (pv 7) (pv 5)) (pe_op op_mul (pe_op op_mod (pv 7) (pv 5)) (pe_op op_fdiv (pv 0) (pv 5)))) (pv 0)) (pa_cons pe_int pa_nil)))) pa_nil)))))
      (pss_cons (ps_for PassesOwn.never rfl (pi_range1 (by rfl) mr (pa_cons (pe_ix ix_list (pv 2) pe_int (fun _ _ => rfl)) pa_nil)) (pg_name (i := 7) scGrid.nd rfl (.inl rfl))
        (pss_one (ps_expr (pe_bm PySem.F.plainAttrs_list PySem.F.slot_list_append PySem.F.type_list_append mt_append (pv 6) (pa_cons (pe_tup (pa_cons (pv 5)
          (pa_cons (pe_op op_mod (pe_op op_add (pe_op op_add (pv 3) (pe_op op_fdiv (pv 7) (pv 4))) (pe_op op_mul (pe_op op_mod (pv 7) (pv 4)) (pe_op op_fdiv (pv 0) (pv 4)))) (pv 0)) (pa_cons pe_int pa_nil)))) pa_nil)))))
      (pss_one (ps_ret (pv 6)))))), ?_⟩
    have ppos : (0 : Int) < (p : Int) := by omega
    have qpos : (0 : Int) < (q : Int) := by omega
    have npos : (0 : Int) < (n : Int) := by omega
    refine ⟨_, rfl, pa, _, rfl, .of hP, rfl, _, _, rfl, _, _, rfl, rfl, ?_⟩
    refine ⟨Nat.zero_le _, fun o no => ?_⟩
    have nca : ca ≠ o := ne_of_none hC no
    refine ⟨_, rfl, ca, _, 0, vN a, rfl, rfl, .of (same_upd no _ _ hC), atI_nat (j := 0) rfl, _, rfl, (by show -(2 ^ 62) ≤ (a : Int); omega), (by show (a : Int) < 2 ^ 62; omega), for_range (lo := 0) (n := a) (fun i σ H' => ∃ (y7 : Option V) (ts : List Addr), σ = [some (vN n), some (.ref pa), some (.ref ca), some (vN first), some (vN p), some (vN q), some (.ref o), y7] ∧ Same H H' ∧ H' o = some (.lst (ts.map V.ref)) ∧
      RowsAt H' ts ((List.range i).map fun k => (p, (k / q + k % q * (n / q)) % n))) ⟨none, [], rfl, same_upd no, upd_same, .nil⟩ ?_ ?_⟩
    · rintro i σ H2 hi ⟨y7, ts, rfl, sm, eo, hT⟩
      rw [Int.zero_add]
      refine ⟨_, rfl, .inl ⟨rfl, _, .of eo⟩, ?_⟩
      have d0 : i % q < q := Nat.mod_lt _ (by omega)
      refine ⟨_, rfl, _, rfl, _, rfl, _, _, rfl, rfl, ⟨qpos, (by show (q : Int) < 1073741824; omega)⟩, _, rfl, _, rfl, _, _, rfl, rfl, qpos, _, rfl, _, rfl, _, _, rfl, rfl, ⟨qpos, (by show (q : Int) < 1073741824; omega)⟩, _, _, rfl, rfl, small64 (n := i % q) (by omega), _, _, rfl, rfl, _, rfl, _, _, rfl, rfl, npos, (by show 3 ≤ sizeLine; decide), fun t nt => ?_⟩
      have nto : o ≠ t := ne_of_none eo nt
      refine ⟨o, _, _, rfl, rfl, (upd_ne nto).trans eo, ?_, ?_⟩
      · rw [List.length_map, hT.1]
        exact small1000 (by simp; omega)
      · refine ⟨_, ts ++ [t], rfl, fun b' z e => ?_, ?_, ?_⟩
        · rw [upd_ne (ne_of_none e no), upd_ne (ne_of_none (sm _ _ e) nt)]
          exact sm _ _ e
        · rw [upd_same, List.map_append]; rfl
        · rw [← range_snoc]
          refine hT.snoc (fun a' xs e => ?_) ?_
          · rw [upd_ne (ne_of e eo (by intro z; cases z)), upd_ne (ne_of_none e nt)]
            exact e
          · rw [upd_ne nto.symm, upd_same]
            rfl
    · rintro σ H2 ⟨y7, ts, rfl, sm, eo, hT⟩
      refine ⟨_, rfl, ca, _, 1, vN b, rfl, rfl, .of (sm _ _ hC), atI_nat (j := 1) rfl, _, rfl, (by show -(2 ^ 62) ≤ (b : Int); omega), (by show (b : Int) < 2 ^ 62; omega), for_range (lo := 0) (n := b) (fun i σ H' => ∃ (y7 : Option V) (ts : List Addr), σ = [some (vN n), some (.ref pa), some (.ref ca), some (vN first), some (vN p), some (vN q), some (.ref o), y7] ∧ Same H H' ∧ H' o = some (.lst (ts.map V.ref)) ∧
        RowsAt H' ts (((List.range a).map fun k => (p, (k / q + k % q * (n / q)) % n)) ++ ((List.range i).map fun k => (q, (first + k / p + k % p * (n / p)) % n)))) ⟨y7, ts, rfl, sm, eo, ?_⟩ ?_ ?_⟩
      · rw [List.range_zero, List.map_nil, List.append_nil]
        exact hT
      · clear hT
        rintro i σ H3 hi ⟨y7, ts, rfl, sm, eo, hT⟩
        rw [Int.zero_add]
        refine ⟨_, rfl, .inl ⟨rfl, _, .of eo⟩, ?_⟩
        have d0 : i % p < p := Nat.mod_lt _ (by omega)
        refine ⟨_, rfl, _, rfl, _, rfl, _, rfl, _, _, rfl, rfl, ⟨ppos, (by show (p : Int) < 1073741824; omega)⟩, _, _, rfl, rfl, _, rfl, _, rfl, _, _, rfl, rfl, ppos, _, rfl, _, rfl, _, _, rfl, rfl, ⟨ppos, (by show (p : Int) < 1073741824; omega)⟩, _, _, rfl, rfl, small64 (n := i % p) (by omega), _, _, rfl, rfl, _, rfl, _, _, rfl, rfl, npos, (by show 3 ≤ sizeLine; decide), fun t nt => ?_⟩
        have nto : o ≠ t := ne_of_none eo nt
        refine ⟨o, _, _, rfl, rfl, (upd_ne nto).trans eo, ?_, ?_⟩
        · rw [List.length_map, hT.1]
          exact small1000 (by simp; omega)
        · refine ⟨_, ts ++ [t], rfl, fun b' z e => ?_, ?_, ?_⟩
          · rw [upd_ne (ne_of_none e no), upd_ne (ne_of_none (sm _ _ e) nt)]
            exact sm _ _ e
          · rw [upd_same, List.map_append]; rfl
          · rw [← range_snoc, ← List.append_assoc]
            refine hT.snoc (fun a' xs e => ?_) ?_
            · rw [upd_ne (ne_of e eo (by intro z; cases z)), upd_ne (ne_of_none e nt)]
              exact e
            · rw [upd_ne nto.symm, upd_same]
              rfl
      · rintro σ H3 ⟨y7, ts, rfl, sm, eo, hT⟩
        exact ⟨_, rfl, k H3 o ts sm no eo hT⟩
end
end EH
namespace EH
open PySem PySem.Spec PyProof.Rows L2
section
variable {P : Program} {w : World} {K : PySem.W.Frag} {mg : Str → Option Value} {base : Heap}
def spSet : Sp := fun vs H Q _ => ∃ (n : Nat) (many : Int), vs = [vN n, .int many] ∧ Good n ∧ ∀ (H' : Hp) (v : V), Same H H' → OptAt H H' v (settingM n many) → Q v H'
theorem ok_set {f fR fS fL fG : Addr} {fd fdR fdS fdL fdG : FuncData} (F : Fun K "setting" "setting" sSet f fd) (GR : FnOk P w K mg base CX0 2 fR fdR ["n"] spPr) (kR : PySem.W.keepIn K (.ref fR) = true) (bR : Binds K fdR ["n"] []) (gR : mg "primes_of_stacks" = some (.ref fR))
    (GS : FnOk P w K mg base CX0 3 fS fdS ["n", "many"] spPSum) (kS : PySem.W.keepIn K (.ref fS) = true) (bS : Binds K fdS ["n", "many"] []) (gS : mg "prime_sum" = some (.ref fS))
    (GL : FnOk P w K mg base CX0 3 fL fdL ["n", "rows"] spLaid) (kL : PySem.W.keepIn K (.ref fL) = true) (bL : Binds K fdL ["n", "rows"] []) (gL : mg "laid" = some (.ref fL))
    (GG : FnOk P w K mg base CX0 1 fG fdG ["n", "primes", "counts", "first"] spGrid) (kG : PySem.W.keepIn K (.ref fG) = true) (bG : Binds K fdG ["n", "primes", "counts", "first"] []) (gG : mg "grid_rows" = some (.ref fG))
    (ml : mg "len" = none) (mr : mg "range" = none) : FnOk P w K mg base CX0 4 f fd ["n", "many"] spSet := by
  refine F.ok scSet (fun vs H Q E h => ?_) (fun cdv A outer s H vs Q E hr h => ?_)
  · obtain ⟨n, many, rfl, _⟩ := h
    rfl
  · obtain ⟨n, many, rfl, hG, k⟩ := h
    refine ⟨_, pss_cons (ps_set (i := 2) scSet.nd rfl (.inr rfl) (pe_call GR (hr.mono (by decide)) (by rfl) gR kR bR .nil pass0 (pa_cons (pv 0) pa_nil)))
      (pss_cons (ps_if (PW.pt (pw_and (pt_cmpR op_eq (pv 0) pe_int (nomark _)) (pw_and1 (pt_cmpR op_eq (pv 1) pe_int (nomark _))))) (pss_one (ps_ret (pe_lst (pa_cons pe_int pa_nil)))) pss_nil)
      (pss_cons (ps_set (i := 3) scSet.nd rfl (.inl rfl) (pe_call GS hr (by rfl) gS kS bS .nil pass0 (pa_cons (pv 0) (pa_cons (pv 1) pa_nil))))
      (pss_cons (ps_set (i := 4) scSet.nd rfl (.inl rfl) (pe_call GS hr (by rfl) gS kS bS .nil pass0 (pa_cons (pv 0) (pa_cons (pe_op op_sub (pv 0) (pv 1)) pa_nil))))
      (pss_cons (ps_if (PW.pt (pw_or (pt_cmpR op_isN (pv 3) pe_non (nomark _)) (pw_or (pt_cmpR op_isN (pv 4) pe_non (nomark _)) (pw_or1 (pt_cmpR op_eq (pv 0) pe_int (nomark _)))))) (pss_one (ps_ret pe_non)) pss_nil)
      (pss_cons (ps_if (pt_cmpR op_eq (pe_callB call_len_seq (by rfl) ml PySem.boot_len (pa_cons (pv 2) pa_nil)) pe_int (nomark _))
        (pss_one (ps_ret (pe_call GL hr (by rfl) gL kL bL .nil pass0 (pa_cons (pv 0) (pa_cons (pe_lc (own := [("hole", 5)]) (g := gName 5) (tt := tYes) (by rfl) scSet.nd (pi_range1 (by rfl) mr (pa_cons (pe_ix ix_list (pv 3) pe_int (fun _ _ => rfl)) pa_nil))
          (blkOk_by (own := [("hole", 5)]) (N := ["n", "many", "primes", "counts", "others", "hole"]) (sc := defScope sSet) (by decide +kernel)) (fun _ _ _ _ _ => pg_name (i := 5) scSet.nd rfl (Or.inl rfl)) (fun _ _ _ _ _ => pts_nil)
          (fun _ _ _ _ _ => pe_tup (pa_cons (pe_ix (r := rIxL K) ix_list (pv 2) pe_int (fun _ _ => rfl)) (pa_cons (pv 5) (pa_cons pe_int pa_nil))))) pa_nil))))) pss_nil)
      (pss_one (ps_ret (pe_call GL hr (by rfl) gL kL bL .nil pass0 (pa_cons (pv 0) (pa_cons (pe_call GG (hr.mono (by decide)) (by rfl) gG kG bG .nil pass0 (pa_cons (pv 0) (pa_cons (pv 2) (pa_cons (pv 3)
          (pa_cons (pe_op op_fdiv (pe_op op_add (pe_ix ix_list (pv 3) pe_int (fun _ _ => rfl)) (pe_ix ix_list (pv 4) pe_int (fun _ _ => rfl))) (pe_ix ix_list (pv 2) pe_int (fun _ _ => rfl))) pa_nil))))) pa_nil)))))))))), ?_⟩
    have kd := hG.kind
    have n1 := hG.lo
    have n2 := hG.hi
    have hps : settingM n many = settingM n many := rfl
    conv at hps => rhs; unfold settingM
    refine ⟨_, rfl, n, rfl, hG.lo, hG.hi, hG.few, fun H1 c s1 hc ec => ?_⟩
    by_cases h1 : n = 1
    · subst h1
      refine ⟨_, rfl, rfl, _, rfl, iteT ?_⟩
      by_cases h0 : many = 0
      · subst h0
        rw [if_pos ⟨rfl, rfl⟩] at hps
        rw [hps] at k
        refine ⟨_, rfl, rfl, _, rfl, ?_⟩
        rw [decide_eq_true rfl]
        refine iteT ?_
        refine ⟨(by show 1 ≤ sizeLine; decide), fun a na => ?_⟩
        exact k _ _ (s1.trans (same_upd na)) ⟨a, rfl, s1.free na, upd_same⟩
      · rw [if_neg (fun z => h0 z.2)] at hps
        have e1 : psM 1 many = none := by
          unfold psM
          rw [P_one]
          by_cases z : many < 0
          · rw [if_pos z]
          · rw [if_neg z]; exact if_neg h0
        rw [e1] at hps
        simp only at hps
        rw [hps] at k
        refine ⟨_, rfl, rfl, _, rfl, ?_⟩
        rw [decide_eq_false (fun z => h0 (V.int.inj z))]
        refine iteF ?_
        refine ⟨_, rfl, _, rfl, 1, many, rfl, hG, fun H2 v s2 hv => ?_⟩
        rw [e1] at hv
        cases hv
        refine ⟨_, rfl, _, rfl, _, rfl, _, _, rfl, rfl, 1, _, rfl, hG, fun H3 v s3 hv => ?_⟩
        refine ⟨_, rfl, rfl, _, rfl, iteT (iteT ?_)⟩
        exact k H3 .non (s1.trans (s2.trans s3)) rfl
    · rw [if_neg (fun z => h1 z.1)] at hps
      refine ⟨_, rfl, rfl, _, rfl, ?_⟩
      rw [decide_eq_false (fun z => h1 (by have := V.int.inj z; omega))]
      refine iteF (iteF ?_)
      refine ⟨_, rfl, _, rfl, n, many, rfl, hG, fun H2 v1 s2 hv1 => ?_⟩
      refine ⟨_, rfl, _, rfl, _, rfl, _, _, rfl, rfl, n, _, rfl, hG, fun H3 v2 s3 hv2 => ?_⟩
      have ec3 : H3 c = some (.lst (vNs (EH.P n))) := s3 _ _ (s2 _ _ ec)
      have sH3 : Same H H3 := s1.trans (s2.trans s3)
      cases hp1 : psM n many with
      | none =>
        rw [hp1] at hv1 hps
        simp only at hps
        rw [hps] at k
        cases hv1
        refine ⟨_, rfl, rfl, _, rfl, iteT (iteT ?_)⟩
        exact k H3 .non sH3 rfl
      | some cs =>
        rw [hp1] at hv1 hps
        obtain ⟨a1, rfl, f1, g1⟩ := hv1
        cases hp2 : psM n (n - many) with
        | none =>
          rw [hp2] at hv2 hps
          simp only at hps
          rw [hps] at k
          cases hv2
          refine ⟨_, rfl, rfl, _, rfl, iteF ?_⟩
          refine ⟨_, rfl, rfl, _, rfl, iteT (iteT ?_)⟩
          exact k H3 .non sH3 rfl
        | some os =>
          rw [hp2] at hv2 hps
          obtain ⟨a2, rfl, f2, g2⟩ := hv2
          simp only [if_neg h1] at hps
          refine ⟨_, rfl, rfl, _, rfl, iteF ?_⟩
          refine ⟨_, rfl, rfl, _, rfl, iteF ?_⟩
          refine ⟨_, rfl, rfl, _, rfl, ?_⟩
          rw [decide_eq_false (fun z => h1 (by have := V.int.inj z; omega))]
          refine iteF ?_
          have g1' : H3 a1 = some (.lst (vIs cs)) := s3 _ _ g1
          have b1 := psM_pos hp1
          have b2 := psM_pos hp2
          have e3 : (vNs (EH.P n)).length = (EH.P n).length := List.length_map _
          generalize hl : EH.P n = l at kd ec3 hps
          cases kd with
          | nil hn => exact absurd hn h1
          | one p m hp pi hm en =>
            obtain ⟨a, rfl, ha⟩ := psM_one hp hl hp1
            simp only [List.getD_cons_zero, Int.toNat_natCast] at hps
            rw [hps] at k
            have ha2 : a ≤ 420 := by
              have : a * 1 ≤ a * p := Nat.mul_le_mul_left a (by omega)
              omega
            refine ⟨_, rfl, c, _, rfl, .inl (.of ec3), rfl, _, rfl, iteT ?_⟩
            refine ⟨_, rfl, _, rfl, a1, _, 0, vN a, rfl, rfl, .of g1', atI_nat (j := 0) rfl, _, rfl, (by show -(2 ^ 62) ≤ (a : Int); omega), (by show (a : Int) < 2 ^ 62; omega), fun D hD => ?_⟩
            have ncD : c ≠ D := ne_of_none ec3 hD
            have nHD : H D = none := sH3.free hD
            refine lc_range (lo := 0) (n := a) (fun i H' => Same H H' ∧ H' c = some (.lst [vN p]) ∧ ∃ ts, H' D = some (.lst (ts.map V.ref)) ∧ RowsAt H' ts ((List.range i).map fun h => (p, h))) ⟨sH3.trans (same_upd hD), (upd_ne ncD).trans ec3, [], upd_same, .nil⟩ ?_ ?_
            · rintro i H4 hi ⟨s4, e4, ts, d4, hT⟩
              rw [Int.zero_add]
              refine ⟨rfl, _, rfl, c, _, 0, vN p, rfl, rfl, .of e4, atI_nat (j := 0) rfl, _, rfl, (by show 3 ≤ sizeLine; decide), fun t nt => ?_⟩
              have nDt : D ≠ t := ne_of_none d4 nt
              refine ⟨_, (upd_ne nDt).trans d4, ?_, fun b z e => ?_, ?_, ts ++ [t], ?_, ?_⟩
              · rw [List.length_map, hT.1]
                exact small1000 (by simp; omega)
              · rw [upd_ne (ne_of_none e nHD), upd_ne (ne_of_none (s4 _ _ e) nt)]
                exact s4 _ _ e
              · rw [upd_ne ncD, upd_ne (ne_of_none e4 nt)]
                exact e4
              · rw [upd_same, List.map_append]; rfl
              · rw [← range_snoc]
                refine hT.snoc (fun a' xs e => ?_) ?_
                · rw [upd_ne (ne_of e d4 (by intro z; cases z)), upd_ne (ne_of_none e nt)]
                  exact e
                · rw [upd_ne nDt.symm, upd_same]
            · rintro H4 ⟨s4, e4, ts, d4, hT⟩
              refine ⟨n, D, ts, rowL p a, rfl, hG, d4, hT, fun r hr => ?_, fun H5 x s5 hx ex => ?_⟩
              · unfold rowL at hr
                obtain ⟨h, _, rfl⟩ := List.mem_map.mp hr
                rw [hl]
                exact List.mem_singleton.mpr rfl
              · exact k H5 _ (s4.trans s5) ⟨x, rfl, s4.free hx, ex⟩
          | two p q g hp hq pi qi hg en co r hr' r1 r2 =>
            obtain ⟨a, b, rfl, ha, hs⟩ := psM_two hp hq hl hr' r1 hp1
            obtain ⟨a', b', rfl, ha', hs'⟩ := psM_two hp hq hl hr' r1 hp2
            simp only [List.getD_cons_zero, List.getD_cons_succ, Int.toNat_natCast] at hps
            rw [hps] at k
            have hb2 : b ≤ 420 := by
              have : b * 1 ≤ b * q := Nat.mul_le_mul_left b (by omega)
              omega
            have qpos : (0 : Int) < (q : Int) := by omega
            refine ⟨_, rfl, c, _, rfl, .inl (.of ec3), rfl, _, rfl, iteF ?_⟩
            refine ⟨_, rfl, _, rfl, _, rfl, _, rfl, _, rfl, a1, _, 0, vN a, rfl, rfl, .of g1', atI_nat (j := 0) rfl, _, rfl, a2, _, 0, vN a', rfl, rfl, .of g2, atI_nat (j := 0) rfl, _, _, rfl, rfl, _, rfl, c, _, 1, vN q, rfl, rfl, .of ec3, atI_nat (j := 1) rfl, _, _, rfl, rfl, ⟨qpos, (by show (q : Int) < 1073741824; omega)⟩, ?_⟩
            refine ⟨n, p, q, a, b, (a + a') / q, c, a1, rfl, n1, n2, hp, pi, hq, qi, by omega, hb2, ec3, g1', fun H4 x ts s4 hx ex hT => ?_⟩
            refine ⟨n, x, ts, _, rfl, hG, ex, hT, fun r hr => ?_, fun H5 y s5 hy ey => ?_⟩
            · rw [hl]
              unfold gridL at hr
              rcases List.mem_append.mp hr with z | z
              · obtain ⟨h, _, rfl⟩ := List.mem_map.mp z
                exact List.mem_cons_self
              · obtain ⟨h, _, rfl⟩ := List.mem_map.mp z
                exact List.mem_cons_of_mem _ List.mem_cons_self
            · exact k H5 _ (sH3.trans (s4.trans s5)) ⟨y, rfl, sH3.free (s4.free hy), ey⟩
end
end EH
namespace EH
open PySem PySem.Spec PyProof.Rows L2
theorem bt_isi : bootBuiltins "isinstance" = some (.builtin "isinstance") := by decide +kernel
theorem bt_int : bootBuiltins "int" = some (.type "int") := by decide +kernel
theorem bt_bool : bootBuiltins "bool" = some (.type "bool") := by decide +kernel
theorem bt_list : bootBuiltins "list" = some (.type "list") := by decide +kernel
theorem bt_all : bootBuiltins "all" = some (.builtin "all") := by decide +kernel
theorem bt_sum : bootBuiltins "sum" = some (.builtin "sum") := by decide +kernel
theorem all_true (n : Nat) : (List.replicate n true).all id = true := by
  induction n with
  | zero => rfl
  | succ n ih => rw [List.replicate_succ, List.all_cons, ih]; rfl
theorem cut_nat (xs : List V) (k : Nat) : cutV xs (some (k : Int)) none = xs.drop k := by
  unfold cutV
  rw [show HT.sIx xs.length 0 (some (k : Int)) = min k xs.length from HT.sIx_nat xs.length 0 k, HT.sIx_none]
  by_cases h : k ≤ xs.length
  · rw [Nat.min_eq_left h]
    exact List.take_of_length_le (by rw [List.length_drop]; exact Nat.le_refl _)
  · rw [Nat.min_eq_right (by omega), Nat.sub_self, List.take_zero, List.drop_eq_nil_of_le (by omega)]
section
variable {P : Program} {w : World} {K : PySem.W.Frag} {mg : Str → Option Value} {base : Heap}
def spCell (K : PySem.W.Frag) : Sp := fun vs H Q _ => ∃ (a : Addr) (ns : List Int), vs = [.ref a, .int 0] ∧ SqL K H a (vIs ns) ∧ ∀ z : Int, Q (.int z) H
theorem ok_cell {f : Addr} {fd : FuncData} (F : Fun K "_law_cell_at" "_law_cell_at" sCell f fd) (ml : mg "len" = none) : FnOk P w K mg base CX0 1 f fd ["script", "k"] (spCell K) := by
  refine F.ok scCell (fun vs H Q E h => ?_) (fun cdv A outer s H vs Q E hr h => ?_)
  · obtain ⟨a, ns, rfl, _⟩ := h
    rfl
  · obtain ⟨a, ns, rfl, hS, k⟩ := h
    refine ⟨_, pss_cons (ps_if (pt_cmpR op_lt (pv 1) (pe_callB call_len_seq (by rfl) ml PySem.boot_len (pa_cons (pv 0) pa_nil)) (nomark _)) (pss_one (ps_ret (pe_ix ix_list (pv 0) (pv 1) (fun _ _ => rfl)))) pss_nil)
      (pss_one (ps_ret pe_int)), ?_⟩
    refine ⟨_, rfl, _, rfl, a, _, rfl, .inl hS, _, _, rfl, rfl, _, rfl, ite2 (fun e => ?_) (fun e => ?_)⟩
    · have e1 : (0 : Int) < ((vIs ns).length : Int) := of_decide_eq_true e
      rw [List.length_map] at e1
      refine ⟨_, rfl, _, rfl, a, _, 0, _, rfl, rfl, hS, atI_nat (j := 0) (vIs_at (by omega)), k _⟩
    · exact k 0
def spWhole : Sp := fun vs H Q _ => ∃ z : Int, vs = [.int z] ∧ Q (.bl true) H
theorem ok_whole {f : Addr} {fd : FuncData} (F : Fun K "_law_whole" "_law_whole" sWhole f fd) (mi : mg "isinstance" = none) (mt : mg "int" = none) (mb : mg "bool" = none) : FnOk P w K mg base CX0 1 f fd ["found"] spWhole := by
  refine F.ok scWhole (fun vs H Q E h => ?_) (fun cdv A outer s H vs Q E hr h => ?_)
  · obtain ⟨z, rfl, _⟩ := h
    rfl
  · obtain ⟨z, rfl, k⟩ := h
    refine ⟨_, pss_one (ps_ret (pe_and (pe_callB call_isi (by rfl) mi bt_isi (pa_cons (pv 0) (pa_cons (pe_bltn (v := .ty "int") (by rfl) mt bt_int rfl) pa_nil)))
      (pe_one (pe_not (pe_callB call_isi (by rfl) mi bt_isi (pa_cons (pv 0) (pa_cons (pe_bltn (v := .ty "bool") (by rfl) mb bt_bool rfl) pa_nil))))))), ?_⟩
    refine ⟨_, rfl, .int z, .ty "int", _, _, true, rfl, .ty "int", .base (.int z), kit_ty (by decide +kernel), _, rfl, iteT ?_⟩
    exact ⟨_, rfl, .int z, .ty "bool", _, _, false, rfl, .ty "bool", .base (.int z), kit_ty (by decide +kernel), _, rfl, k⟩
def spNums : Sp := fun vs H Q _ => ∃ (a : Addr) (l : List Int), vs = [.ref a, .int (l.length : Int)] ∧ H a = some (.lst (vIs l)) ∧ l.length ≤ 1000 ∧ ∀ H', Same H H' → Q (.bl true) H'
theorem ok_nums {f fW : Addr} {fd fdW : FuncData} (F : Fun K "_law_numbers" "_law_numbers" sNums f fd) (GW : FnOk P w K mg base CX0 1 fW fdW ["found"] spWhole) (kW : PySem.W.keepIn K (.ref fW) = true) (bW : Binds K fdW ["found"] []) (gW : mg "_law_whole" = some (.ref fW))
    (mi : mg "isinstance" = none) (mt : mg "list" = none) (ml : mg "len" = none) (ma : mg "all" = none) : FnOk P w K mg base CX0 2 f fd ["found", "many"] spNums := by
  refine F.ok scNums (fun vs H Q E h => ?_) (fun cdv A outer s H vs Q E hr h => ?_)
  · obtain ⟨a, l, rfl, _⟩ := h
    rfl
  · obtain ⟨a, l, rfl, hH, hl, k⟩ := h
    refine ⟨_, pss_cons (ps_if (PW.pt (pw_or (pt_not (pt_val (pe_callB call_isi (by rfl) mi bt_isi (pa_cons (pv 0) (pa_cons (pe_bltn (v := .ty "list") (by rfl) mt bt_list rfl) pa_nil)))))
        (pw_or1 (pt_cmpR op_ne (pe_callB call_len_seq (by rfl) ml PySem.boot_len (pa_cons (pv 0) pa_nil)) (pv 1) (nomark _))))) (pss_one (ps_ret pe_bl)) pss_nil)
      (pss_one (ps_ret (pe_callB (cr_all rfl) (by rfl) ma bt_all (pa_cons (pe_lc (own := [("one", 2)]) (g := gName 2) (tt := tYes) (by rfl) scNums.nd (pi_list (pv 0))
        (blkOk_by (own := [("one", 2)]) (N := ["found", "many", "one"]) (sc := defScope sNums) (by decide +kernel)) (fun _ _ _ _ _ => pg_name (i := 2) scNums.nd rfl (Or.inl rfl)) (fun _ _ _ _ _ => pts_nil)
        (fun _ _ _ _ _ => pe_call GW hr (by rfl) gW kW bW .nil pass0 (pa_cons (pv 2) pa_nil))) pa_nil)))), ?_⟩
    refine ⟨_, rfl, .ref a, .ty "list", _, _, true, rfl, .ty "list", .base (.lst hH), kit_ty (by decide +kernel), _, rfl, iteF ?_⟩
    refine ⟨_, rfl, a, _, rfl, .inl (.of hH), _, rfl, rfl, _, rfl, iteNS (by rw [List.length_map]) ?_⟩
    refine ⟨_, rfl, a, rfl, ⟨_, .of hH⟩, fun D hD => ?_⟩
    have nD : a ≠ D := ne_of_none hH hD
    refine lc_list (K := K) (a := a) (xs := vIs l) (fun i H' => Same H H' ∧ H' D = some (.lst ((List.replicate i true).map V.bl))) ⟨same_upd hD, upd_same⟩ (fun i H' _ hP => .of (hP.1 _ _ hH)) ?_ ?_
    · rintro i x H2 hx ⟨s2, d2⟩
      have hi := (List.getElem?_eq_some_iff.mp hx).1
      rw [List.length_map] at hi
      obtain ⟨z, rfl⟩ : ∃ z, x = V.int z := by
        rw [vIs_at hi] at hx
        exact ⟨_, (Option.some.inj hx).symm⟩
      refine ⟨rfl, _, rfl, z, rfl, _, d2, ?_, fun b o e => ?_, ?_⟩
      · rw [List.length_map, List.length_replicate]
        exact small1000 (by omega)
      · rw [upd_ne (ne_of_none e hD)]
        exact s2 _ _ e
      · rw [upd_same, List.replicate_succ', List.map_append]; rfl
    · rintro H2 ⟨s2, d2⟩
      refine ⟨D, _, rfl, .of d2, ?_⟩
      rw [all_true]
      exact k H2 s2
end
end EH
namespace EH
open PySem PySem.Spec PyProof.Rows L2
theorem vNs_at {l : List Nat} {i p : Nat} (h : l[i]? = some p) : (vNs l)[i]? = some (vN p) := by
  unfold vNs
  rw [List.getElem?_map, h]; rfl
theorem vNs_get {l : List Nat} {i : Nat} {x : V} (h : (vNs l)[i]? = some x) : ∃ p, x = vN p ∧ l[i]? = some p := by
  unfold vNs at h
  rw [List.getElem?_map] at h
  cases e : l[i]? with
  | none => rw [e] at h; cases h
  | some p => rw [e] at h; exact ⟨p, (Option.some.inj h).symm, rfl⟩
theorem vNs_snoc (l : List Nat) (p : Nat) : vNs l ++ [vN p] = vNs (l ++ [p]) := by
  unfold vNs
  rw [List.map_append]; rfl
theorem mod_dec {n p : Nat} : (decide (V.int ((n : Int) % (p : Int)) = V.int 0)) = decide (n % p = 0) := by
  by_cases z : n % p = 0
  · rw [decide_eq_true z, decide_eq_true (by rw [← Int.natCast_emod, z]; rfl)]
  · rw [decide_eq_false z, decide_eq_false (fun e => z (by have := V.int.inj e; rw [← Int.natCast_emod] at this; exact Int.ofNat.inj this))]
section
variable {P : Program} {w : World} {K : PySem.W.Frag} {mg : Str → Option Value} {base : Heap}
def spLPr : Sp := fun vs H Q _ => ∃ n : Nat, vs = [vN n] ∧ 1 ≤ n ∧ n ≤ 420 ∧ ∀ (H' : Hp) (a : Addr), Same H H' → H a = none → H' a = some (.lst (vNs (EH.P n))) → Q (.ref a) H'
theorem ok_lpr {f : Addr} {fd : FuncData} (F : Fun K "_law_primes" "_law_primes" sLPr f fd) : FnOk P w K mg base CX0 1 f fd ["n"] spLPr := by
  refine F.ok scLPr (fun vs H Q E h => ?_) (fun cdv A outer s H vs Q E hr h => ?_)
  · obtain ⟨n, rfl, _⟩ := h
    rfl
  · obtain ⟨n0, rfl, hn1, hn2, k⟩ := h
    have hF := (facts hn1 hn2).lp
    refine ⟨_, pss_cons (ps_set (i := 1) scLPr.nd rfl (.inl rfl) (pe_lst pa_nil))
      (pss_cons (ps_set (i := 2) scLPr.nd rfl (.inl rfl) pe_int)
      (pss_cons (ps_while PassesOwn.never (pt_cmpR op_gt (pv 0) pe_int (nomark _))
        (C8.pss_cut (ps_if (pt_cmpR op_eq (pe_op op_mod (pv 0) (pv 2)) pe_int (nomark _))
          (pss_one (ps_expr (pe_bm PySem.F.plainAttrs_list PySem.F.slot_list_append PySem.F.type_list_append mt_append (pv 1) (pa_cons (pv 2) pa_nil)))) pss_nil)
        (pss_cons (ps_while PassesOwn.never (pt_cmpR op_eq (pe_op op_mod (pv 0) (pv 2)) pe_int (nomark _))
          (pss_one (ps_set (i := 0) scLPr.nd rfl (.inl rfl) (pe_op op_fdiv (pv 0) (pv 2)))))
        (pss_one (ps_set (i := 2) scLPr.nd rfl (.inl rfl) (pe_op op_add (pv 2) pe_int))))))
      (pss_one (ps_ret (pv 1))))), ?_⟩
    refine ⟨Nat.zero_le _, fun o no => ?_⟩
    refine ⟨fun m σ H' => ∃ (n p : Nat) (l : List Nat), σ = [some (vN n), some (.ref o), some (vN p)] ∧ p + m = 432 ∧ 2 ≤ p ∧ l.length ≤ p ∧ lpF m n p l = some (EH.P n0) ∧ Same H H' ∧ H' o = some (.lst (vNs l)),
      ⟨430, n0, 2, [], rfl, rfl, by omega, by simp, hF, same_upd no, upd_same⟩, fun m σ H1 hW => ?_⟩
    obtain ⟨n, p, l, rfl, em, hp, hl, hm, sm, ho⟩ := hW
    cases m with
    | zero => cases hm
    | succ m =>
    unfold lpF at hm
    have ppos : (0 : Int) < (p : Int) := by omega
    refine ⟨_, rfl, _, _, rfl, rfl, _, rfl, ite2 (fun e => ?_) (fun e => ?_)⟩
    · have e1 : 1 < n := by
        have : (1 : Int) < (n : Int) := of_decide_eq_true e
        omega
      rw [if_pos e1] at hm
      generalize hu : stripF 12 n p = u at hm
      cases u with
      | none => cases hm
      | some n2 =>
      simp only at hm
      refine ⟨fun σ' H' => ∃ (n p : Nat) (l : List Nat), σ' = [some (vN n), some (.ref o), some (vN p)] ∧ p + m = 432 ∧ 2 ≤ p ∧ l.length ≤ p ∧ lpF m n p l = some (EH.P n0) ∧ Same H H' ∧ H' o = some (.lst (vNs l)),
        fun σ' H' hN => ⟨m, Nat.lt_succ_self m, hN⟩, ?_⟩
      refine ⟨fun σ' H' => ∃ l2 : List Nat, σ' = [some (vN n), some (.ref o), some (vN p)] ∧ l2.length ≤ p + 1 ∧ lpF m n2 (p + 1) l2 = some (EH.P n0) ∧ Same H H' ∧ H' o = some (.lst (vNs l2)), ?_, ?_⟩
      · refine ⟨_, rfl, _, rfl, _, _, rfl, rfl, ppos, rfl, _, rfl, ?_⟩
        rw [mod_dec]
        refine ite2 (fun e => ?_) (fun e => ?_)
        · rw [if_pos (of_decide_eq_true e)] at hm
          refine ⟨_, rfl, .inl ⟨rfl, _, .of ho⟩, _, rfl, o, _, _, rfl, rfl, ho, ?_, l ++ [p], rfl, by simp; omega, hm, fun b x e => ?_, ?_⟩
          · rw [List.length_map]
            exact small1000 (by omega)
          · rw [upd_ne (ne_of_none e no)]
            exact sm _ _ e
          · rw [upd_same, vNs_snoc]
        · rw [if_neg (fun z => e (decide_eq_true z))] at hm
          exact ⟨l, rfl, by omega, hm, sm, ho⟩
      · rintro σ' H2 ⟨l2, rfl, hl2, hm2, sm2, ho2⟩
        refine ⟨fun m σ H' => ∃ n' : Nat, σ = [some (vN n'), some (.ref o), some (vN p)] ∧ stripF m n' p = some n2 ∧ H' = H2, ⟨12, n, rfl, hu, rfl⟩, fun m3 σ3 H3 hW3 => ?_⟩
        obtain ⟨n3, rfl, hm3, rfl⟩ := hW3
        cases m3 with
        | zero => cases hm3
        | succ m3 =>
        unfold stripF at hm3
        refine ⟨_, rfl, _, rfl, _, _, rfl, rfl, ppos, rfl, _, rfl, ?_⟩
        rw [mod_dec]
        refine ite2 (fun e => ?_) (fun e => ?_)
        · rw [if_pos (of_decide_eq_true e)] at hm3
          refine ⟨fun σ H' => ∃ n' : Nat, σ = [some (vN n'), some (.ref o), some (vN p)] ∧ stripF m3 n' p = some n2 ∧ H' = H3, fun σ' H' hN => ⟨m3, Nat.lt_succ_self m3, hN⟩, ?_⟩
          exact ⟨_, rfl, _, rfl, _, _, rfl, rfl, ⟨ppos, (by show (p : Int) < 1073741824; omega)⟩, n3 / p, rfl, hm3, rfl⟩
        · rw [if_neg (fun z => e (decide_eq_true z))] at hm3
          cases hm3
          exact ⟨_, rfl, _, _, rfl, rfl, n2, p + 1, l2, rfl, by omega, by omega, hl2, hm2, sm2, ho2⟩
    · have e1 : ¬ 1 < n := fun z => e (decide_eq_true (by show (1 : Int) < (n : Int); omega))
      rw [if_neg e1] at hm
      cases hm
      exact ⟨_, rfl, k H1 o sm no ho⟩
theorem pick (z : Int) : ∃ m : Nat, atI [V.int 24, V.int 24, V.int 420] (z % 3) = some (vN m) ∧ 1 ≤ m ∧ m ≤ 420 := by
  have h1 := Int.emod_nonneg z (show (3 : Int) ≠ 0 by decide)
  have h2 := Int.emod_lt_of_pos z (show (0 : Int) < 3 by decide)
  have h3 : z % 3 = 0 ∨ z % 3 = 1 ∨ z % 3 = 2 := by omega
  rcases h3 with h | h | h
  · rw [h]; exact ⟨24, rfl, by decide, by decide⟩
  · rw [h]; exact ⟨24, rfl, by decide, by decide⟩
  · rw [h]; exact ⟨420, rfl, by decide, by decide⟩
def spWheel : Sp := fun vs H Q _ => ∃ z : Int, vs = [.int z] ∧ ∀ (H' : Hp) (n : Nat), Same H H' → Good n → Q (vN n) H'
theorem ok_wheel {f fL : Addr} {fd fdL : FuncData} (F : Fun K "_law_wheel" "_law_wheel" sWheel f fd) (GL : FnOk P w K mg base CX0 1 fL fdL ["n"] spLPr) (kL : PySem.W.keepIn K (.ref fL) = true) (bL : Binds K fdL ["n"] []) (gL : mg "_law_primes" = some (.ref fL)) : FnOk P w K mg base CX0 2 f fd ["cell"] spWheel := by
  refine F.ok scWheel (fun vs H Q E h => ?_) (fun cdv A outer s H vs Q E hr h => ?_)
  · obtain ⟨z, rfl, _⟩ := h
    rfl
  · obtain ⟨z, rfl, k⟩ := h
    refine ⟨_, pss_cons (ps_set (i := 1) scWheel.nd rfl (.inl rfl) (pe_op op_add pe_int (pe_op op_mod (pe_op op_fdiv (pv 0) pe_int) (pe_ix ix_list (pe_lst (pa_cons pe_int (pa_cons pe_int (pa_cons pe_int pa_nil)))) (pe_op op_mod (pv 0) pe_int) (fun _ _ => rfl)))))
      (pss_cons (ps_for PassesOwn.never rfl (pi_list (pe_slice sl_list (pe_call GL hr (by rfl) gL kL bL .nil pass0 (pa_cons (pv 1) pa_nil)) (po_some pe_int) po_none)) (pg_name (i := 2) scWheel.nd rfl (.inl rfl))
        (pss_one (ps_while PassesOwn.never (pt_cmpR op_eq (pe_op op_mod (pv 1) (pv 2)) pe_int (nomark _)) (pss_one (ps_set (i := 1) scWheel.nd rfl (.inl rfl) (pe_op op_fdiv (pv 1) (pv 2)))))))
      (pss_one (ps_ret (pv 1)))), ?_⟩
    obtain ⟨m, hm, hm1, hm2⟩ := pick z
    have mpos : (0 : Int) < (m : Int) := by omega
    refine ⟨_, rfl, _, _, rfl, rfl, ⟨by decide, by decide⟩, (by show 3 ≤ sizeLine; decide), fun d nd => ?_⟩
    refine ⟨_, rfl, _, _, rfl, rfl, (by show (0 : Int) < 3; decide), d, _, z % 3, vN m, rfl, rfl, .of upd_same, hm, _, _, rfl, rfl, mpos, _, _, rfl, rfl, ?_⟩
    have hn : ∃ n0 : Nat, 1 + z / 3 % (m : Int) = (n0 : Int) ∧ 1 ≤ n0 ∧ n0 ≤ 420 := by
      have h1 := Int.emod_nonneg (z / 3) (show (m : Int) ≠ 0 by omega)
      have h2 := Int.emod_lt_of_pos (z / 3) mpos
      exact ⟨(1 + z / 3 % (m : Int)).toNat, by omega, by omega, by omega⟩
    obtain ⟨n0, en, hn1, hn2⟩ := hn
    have ff := facts hn1 hn2
    obtain ⟨w', hw, hw1, hw2, hw3⟩ := ff.wh
    refine ⟨_, rfl, n0, ?_, hn1, hn2, fun H1 c s1 hc ec => ?_⟩
    · show [V.int (1 + z / 3 % (m : Int))] = _
      rw [en]
    refine ⟨2, rfl, c, _, rfl, .of ec, fun e ne => ?_⟩
    rw [show (some (2 : Int)) = some ((2 : Nat) : Int) from rfl, cut_nat]
    have ed : (vNs (EH.P n0)).drop 2 = vNs ((EH.P n0).drop 2) := by
      unfold vNs
      rw [List.map_drop]
    rw [ed]
    have s2 : Same H (upd H1 e (.lst (vNs ((EH.P n0).drop 2)))) := ((same_upd nd).trans s1).trans (same_upd ne)
    refine ⟨e, rfl, ⟨_, .of upd_same⟩, for_list (K := K) (a := e) (xs := vNs ((EH.P n0).drop 2)) (fun i σ H' => ∃ (n : Nat) (y : Option V), σ = [some (.int z), some (vN n), y] ∧ wheelF (((EH.P n0).drop 2).drop i) n = some w' ∧ H' = upd H1 e (.lst (vNs ((EH.P n0).drop 2))))
      ⟨n0, none, ?_, hw, rfl⟩ (fun i σ H' _ ⟨_, _, _, _, eH⟩ => by rw [eH]; exact .of upd_same) ?_ ?_⟩
    · show [some (V.int z), some (V.int (1 + z / 3 % (m : Int))), none] = _
      rw [en]
    · rintro i x σ H2 hx ⟨n, y, rfl, hwi, rfl⟩
      obtain ⟨p, rfl, hp⟩ := vNs_get hx
      have hpi := (List.getElem?_eq_some_iff.mp hp)
      have hmem : p ∈ EH.P n0 := List.mem_of_mem_drop (List.mem_of_getElem? hp)
      have hp2 := ff.two p hmem
      have ppos : (0 : Int) < (p : Int) := by omega
      obtain ⟨hi, hpe⟩ := hpi
      rw [List.drop_eq_getElem_cons hi, hpe] at hwi
      unfold wheelF at hwi
      generalize hu : stripF 12 n p = u at hwi
      cases u with
      | none => cases hwi
      | some n2 =>
      simp only at hwi
      generalize hH2 : upd H1 e (.lst (vNs ((EH.P n0).drop 2))) = H2
      refine ⟨fun m σ H' => ∃ n' : Nat, σ = [some (.int z), some (vN n'), some (vN p)] ∧ stripF m n' p = some n2 ∧ H' = H2, ⟨12, n, rfl, hu, rfl⟩, fun m3 σ3 H3 hW3 => ?_⟩
      obtain ⟨n3, rfl, hm3, rfl⟩ := hW3
      cases m3 with
      | zero => cases hm3
      | succ m3 =>
      unfold stripF at hm3
      refine ⟨_, rfl, _, rfl, _, _, rfl, rfl, ppos, rfl, _, rfl, ?_⟩
      rw [mod_dec]
      refine ite2 (fun e => ?_) (fun e => ?_)
      · rw [if_pos (of_decide_eq_true e)] at hm3
        refine ⟨fun σ H' => ∃ n' : Nat, σ = [some (.int z), some (vN n'), some (vN p)] ∧ stripF m3 n' p = some n2 ∧ H' = H3, fun σ' H' hN => ⟨m3, Nat.lt_succ_self m3, hN⟩, ?_⟩
        exact ⟨_, rfl, _, rfl, _, _, rfl, rfl, ⟨ppos, (by show (p : Int) < 1073741824; omega)⟩, n3 / p, rfl, hm3, rfl⟩
      · rw [if_neg (fun z => e (decide_eq_true z))] at hm3
        cases hm3
        exact ⟨n2, _, rfl, hwi, rfl⟩
    · rintro σ H2 ⟨n, y, rfl, hwi, rfl⟩
      rw [List.drop_eq_nil_of_le (by rw [List.length_map]; exact Nat.le_refl _)] at hwi
      cases hwi
      exact ⟨_, rfl, k _ _ s2 ⟨hw1, hw2, hw3⟩⟩
end
end EH
namespace EH
open PySem PySem.Spec PyProof.Rows L2
section
variable {P : Program} {w : World} {K : PySem.W.Frag} {mg : Str → Option Value} {base : Heap}
theorem dec_eqI {i j : Int} : decide (V.int i = V.int j) = decide (i = j) := by
  by_cases h : i = j
  · rw [decide_eq_true h, decide_eq_true (congrArg V.int h)]
  · rw [decide_eq_false h, decide_eq_false (fun z => h (V.int.inj z))]
def spCan : Sp := fun vs H Q _ => ∃ (a : Addr) (n : Nat) (many : Int), vs = [.ref a, .int many] ∧ Good n ∧ H a = some (.lst (vNs (EH.P n))) ∧ Q (.bl (canM (EH.P n) many)) H
theorem ok_can {f : Addr} {fd : FuncData} (F : Fun K "_law_can" "_law_can" sCan f fd) (ml : mg "len" = none) (mr : mg "range" = none) : FnOk P w K mg base CX0 1 f fd ["primes", "many"] spCan := by
  refine F.ok scCan (fun vs H Q E h => ?_) (fun cdv A outer s H vs Q E hr h => ?_)
  · obtain ⟨a, n, many, rfl, _⟩ := h
    rfl
  · obtain ⟨a, n, many, rfl, hG, hH, k⟩ := h
    refine ⟨_, pss_cons (ps_if (pt_cmpR op_lt (pv 1) pe_int (nomark _)) (pss_one (ps_ret pe_bl)) pss_nil)
      (pss_cons (ps_if (pt_cmpR op_eq (pe_callB call_len_seq (by rfl) ml PySem.boot_len (pa_cons (pv 0) pa_nil)) pe_int (nomark _)) (pss_one (ps_ret (pe_cmpR op_eq (pv 1) pe_int (nomark _)))) pss_nil)
      (pss_cons (ps_if (pt_cmpR op_eq (pe_callB call_len_seq (by rfl) ml PySem.boot_len (pa_cons (pv 0) pa_nil)) pe_int (nomark _)) (pss_one (ps_ret (pe_cmpR op_eq (pe_op op_mod (pv 1) (pe_ix ix_list (pv 0) pe_int (fun _ _ => rfl))) pe_int (nomark _)))) pss_nil)
      (pss_cons (ps_for PassesOwn.never rfl (pi_range1 (by rfl) mr (pa_cons (pe_ix ix_list (pv 0) pe_int (fun _ _ => rfl)) pa_nil)) (pg_name (i := 2) scCan.nd rfl (.inl rfl))
        (pss_one (ps_if (PW.pt (pw_and (pt_cmpR op_le (pe_op op_mul (pv 2) (pe_ix ix_list (pv 0) pe_int (fun _ _ => rfl))) (pv 1) (nomark _))
          (pw_and1 (pt_cmpR op_eq (pe_op op_mod (pe_op op_sub (pv 1) (pe_op op_mul (pv 2) (pe_ix ix_list (pv 0) pe_int (fun _ _ => rfl)))) (pe_ix ix_list (pv 0) pe_int (fun _ _ => rfl))) pe_int (nomark _))))) (pss_one (ps_ret pe_bl)) pss_nil)))
      (pss_one (ps_ret pe_bl))))), ?_⟩
    have kd := hG.kind
    unfold canM at k
    refine ⟨_, rfl, _, _, rfl, rfl, _, rfl, ite2 (fun e => ?_) (fun e => ?_)⟩
    · rw [if_pos (of_decide_eq_true e)] at k
      exact k
    · rw [if_neg (fun z => e (decide_eq_true z))] at k
      generalize EH.P n = l at kd hH k
      cases kd with
      | nil hn =>
        simp only at k
        refine ⟨_, rfl, a, _, rfl, .inl (.of hH), rfl, _, rfl, iteT ?_⟩
        refine ⟨_, rfl, rfl, ?_⟩
        rw [dec_eqI]
        exact k
      | one p m hp pi hm en =>
        simp only at k
        have ppos : (0 : Int) < (p : Int) := by omega
        refine ⟨_, rfl, a, _, rfl, .inl (.of hH), rfl, _, rfl, iteF ?_⟩
        refine ⟨_, rfl, a, _, rfl, .inl (.of hH), rfl, _, rfl, iteT ?_⟩
        refine ⟨_, rfl, _, rfl, a, _, 0, vN p, rfl, rfl, .of hH, atI_nat (j := 0) rfl, _, _, rfl, rfl, ppos, rfl, ?_⟩
        rw [dec_eqI]
        exact k
      | two p q g hp hq pi qi hg en co r hr' r1 r2 =>
        simp only at k
        have qpos : (0 : Int) < (q : Int) := by omega
        refine ⟨_, rfl, a, _, rfl, .inl (.of hH), rfl, _, rfl, iteF ?_⟩
        refine ⟨_, rfl, a, _, rfl, .inl (.of hH), rfl, _, rfl, iteF ?_⟩
        refine ⟨_, rfl, a, _, 1, vN q, rfl, rfl, .of hH, atI_nat (j := 1) rfl, _, rfl, (by show -(2 ^ 62) ≤ (q : Int); omega), (by show (q : Int) < 2 ^ 62; omega), for_range (lo := 0) (n := q) (fun i σ H' => ∃ y : Option V, σ = [some (.ref a), some (.int many), y] ∧ H' = H ∧
          ∀ few, few < i → (decide ((few : Int) * (p : Int) ≤ many) && decide ((many - (few : Int) * (p : Int)) % (q : Int) = 0)) = false) ⟨none, rfl, rfl, fun few h => by omega⟩ ?_ ?_⟩
        · rintro i σ H2 hi ⟨y, rfl, rfl, hno⟩
          rw [Int.zero_add]
          refine ⟨_, rfl, _, rfl, a, _, 0, vN p, rfl, rfl, .of hH, atI_nat (j := 0) rfl, _, _, rfl, rfl, small64 (by omega), _, rfl, _, _, rfl, rfl, _, rfl, ite2 (fun e1 => ?_) (fun e1 => ?_)⟩
          · refine ⟨_, rfl, _, rfl, _, rfl, a, _, 0, vN p, rfl, rfl, .of hH, atI_nat (j := 0) rfl, _, _, rfl, rfl, small64 (by omega), _, _, rfl, rfl, _, rfl, a, _, 1, vN q, rfl, rfl, .of hH, atI_nat (j := 1) rfl, _, _, rfl, rfl, qpos, rfl, _, rfl, ?_⟩
            rw [dec_eqI]
            refine ite2 (fun e2 => ?_) (fun e2 => ?_)
            · have t : ((List.range q).any fun few => decide ((few : Int) * (p : Int) ≤ many) && decide ((many - (few : Int) * (p : Int)) % (q : Int) = 0)) = true := by
                refine List.any_eq_true.mpr ⟨i, List.mem_range.mpr hi, ?_⟩
                rw [Bool.and_eq_true]
                exact ⟨e1, e2⟩
              rw [t] at k
              exact k
            · refine ⟨_, rfl, rfl, fun few hf => ?_⟩
              by_cases z : few = i
              · subst z
                rw [Bool.and_eq_false_iff]
                exact .inr (Bool.eq_false_iff.mpr e2)
              · exact hno few (by omega)
          · refine ⟨_, rfl, rfl, fun few hf => ?_⟩
            by_cases z : few = i
            · subst z
              rw [Bool.and_eq_false_iff]
              exact .inl (Bool.eq_false_iff.mpr e1)
            · exact hno few (by omega)
        · rintro σ H2 ⟨y, rfl, rfl, hno⟩
          have t : ((List.range q).any fun few => decide ((few : Int) * (p : Int) ≤ many) && decide ((many - (few : Int) * (p : Int)) % (q : Int) = 0)) = false := by
            refine Bool.eq_false_iff.mpr fun z => ?_
            obtain ⟨few, hf, hh⟩ := List.any_eq_true.mp z
            rw [hno few (List.mem_range.mp hf)] at hh
            cases hh
          rw [t] at k
          exact k
def spDrawn (K : PySem.W.Frag) : Sp := fun vs H Q _ => ∃ (c : Addr) (ns : List Int) (m : Nat), vs = [.ref c, vN m] ∧ 1 ≤ m ∧ m ≤ 100 ∧ SqL K H c (vIs ns) ∧ ns.length ≤ 1000 ∧ ∀ (H' : Hp) (a : Addr) (l : List Int), Same H H' → H a = none → H' a = some (.lst (vIs l)) → l.length = m → Q (.ref a) H'
theorem ok_drawn {f : Addr} {fd : FuncData} (F : Fun K "_law_drawn" "_law_drawn" sDrawn f fd) (ml : mg "len" = none) (mr : mg "range" = none) : FnOk P w K mg base CX0 1 f fd ["cells", "many"] (spDrawn K) := by
  refine F.ok scDrawn (fun vs H Q E h => ?_) (fun cdv A outer s H vs Q E hr h => ?_)
  · obtain ⟨c, ns, m, rfl, _⟩ := h
    rfl
  · obtain ⟨c, ns, m, rfl, hm1, hm2, hS, hl, k⟩ := h
    refine ⟨_, pss_cons (ps_setLc (i := 2) (own := [("k", 3)]) (g := gName 3) (tt := tYes) (by rfl) scDrawn.nd rfl rfl (sw_true rfl rfl rfl (by decide +kernel)) (pi_range1 (by rfl) mr (pa_cons (pv 1) pa_nil))
        (blkOk_by (own := [("k", 3)]) (N := ["cells", "many", "drawn", "k", "at"]) (sc := defScope sDrawn) (by decide +kernel)) (fun _ _ _ _ _ => pg_name (i := 3) scDrawn.nd rfl (.inl rfl)) (fun _ _ _ _ _ => pts_nil)
        (fun _ _ _ _ _ => pe_op op_mul (pe_op op_mul (pv 3) (pv 3)) (pv 3)))
      (pss_cons (ps_for PassesOwn.never rfl (pi_range1 (by rfl) mr (pa_cons (pe_callB call_len_seq (by rfl) ml PySem.boot_len (pa_cons (pv 0) pa_nil)) pa_nil)) (pg_name (i := 3) scDrawn.nd rfl (.inl rfl))
        (pss_cons (ps_set (i := 4) scDrawn.nd rfl (.inl rfl) (pe_op op_mod (pv 3) (pv 1)))
        (pss_one (ps_asg (pe_op op_add (pe_ix ix_list (pv 2) (pv 4) (fun _ _ => rfl)) (pe_op op_mod (pe_ix ix_list (pv 0) (pv 3) (fun _ _ => rfl)) (pe_op op_pow pe_int pe_int))) (pg_sub (pv 2) (pv 4) set_list)))))
      (pss_one (ps_ret (pv 2)))), ?_⟩
    have mpos : (0 : Int) < (m : Int) := by omega
    refine ⟨_, rfl, _, rfl, (by show -(2 ^ 62) ≤ (m : Int); omega), (by show (m : Int) < 2 ^ 62; omega), fun D hD => ?_⟩
    refine lc_range (lo := 0) (n := m) (fun i H' => Same H H' ∧ ∃ l : List Int, H' D = some (.lst (vIs l)) ∧ l.length = i) ⟨same_upd hD, [], upd_same, rfl⟩ ?_ ?_
    · rintro i H2 hi ⟨s2, l, d2, el⟩
      rw [Int.zero_add]
      have hii : i * i ≤ 100 * 100 := Nat.mul_le_mul (by omega) (by omega)
      refine ⟨rfl, _, rfl, _, rfl, _, _, rfl, rfl, small64 (by omega), _, rfl, _, _, rfl, rfl, small64 (n := i * i) (by omega), _, d2, ?_, fun b x e => ?_, l ++ [(i : Int) * (i : Int) * (i : Int)], ?_, by simp [el]⟩
      · rw [List.length_map]
        exact small1000 (by omega)
      · rw [upd_ne (ne_of_none e hD)]
        exact s2 _ _ e
      · rw [upd_same]
        unfold vIs
        rw [List.map_append]; rfl
    · rintro H2 ⟨s2, l, d2, el⟩
      have hS2 : SqL K H2 c (vIs ns) := s2.seq hS
      have el0 : (vIs ns).length = ns.length := List.length_map _
      refine ⟨_, rfl, c, _, rfl, .inl hS2, _, rfl, (by show -(2 ^ 62) ≤ ((vIs ns).length : Int); omega), (by show ((vIs ns).length : Int) < 2 ^ 62; omega), for_range (lo := 0) (n := (vIs ns).length) (fun i σ H' => ∃ (y3 y4 : Option V), σ = [some (.ref c), some (vN m), some (.ref D), y3, y4] ∧ Same H H' ∧ ∃ l : List Int, H' D = some (.lst (vIs l)) ∧ l.length = m) ⟨none, none, rfl, s2, l, d2, el⟩ ?_ ?_⟩
      · clear d2 el
        rintro i σ H3 hi ⟨y3, y4, rfl, s3, l, d3, el⟩
        rw [Int.zero_add]
        have hx : i % m < l.length := by rw [el]; exact Nat.mod_lt _ (by omega)
        refine ⟨_, rfl, _, rfl, _, _, rfl, rfl, mpos, ?_⟩
        refine ⟨_, rfl, _, rfl, D, _, _, _, rfl, rfl, .of d3, at_of (j := i % m) rfl (vIs_at hx), _, rfl, _, rfl, c, _, _, _, rfl, rfl, s3.seq hS, at_of (j := i) rfl (vIs_at (by omega)), _, _, rfl, rfl, ⟨by decide, by decide, by decide⟩, _, _, rfl, rfl, (by show (0 : Int) < 10 ^ 64; decide), _, _, rfl, rfl, ?_⟩
        refine ⟨_, rfl, _, rfl, D, _, _, i % m, rfl, rfl, d3, ?_, _, _, rfl, fun b x e => ?_, l.set (i % m) (l.getD (i % m) 0 + ns.getD i 0 % 10 ^ 64), ?_, by rw [List.length_set]; exact el⟩
        · rw [List.length_map]
          exact ixN_nat hx
        · rw [upd_ne (ne_of_none e hD)]
          exact s3 _ _ e
        · rw [upd_same]
          unfold vIs
          rw [List.map_set]
          rfl
      · rintro σ H3 ⟨y3, y4, rfl, s3, l, d3, el⟩
        exact ⟨_, rfl, k H3 D l s3 hD d3 el⟩
def spMany : Sp := fun vs H Q _ => ∃ (n : Nat) (z : Int), vs = [vN n, .int z] ∧ ∀ v : Int, Q (.int v) H
theorem ok_many {f : Addr} {fd : FuncData} (F : Fun K "_law_many" "_law_many" sMany f fd) : FnOk P w K mg base CX0 1 f fd ["n", "cell"] spMany := by
  refine F.ok scMany (fun vs H Q E h => ?_) (fun cdv A outer s H vs Q E hr h => ?_)
  · obtain ⟨n, z, rfl, _⟩ := h
    rfl
  · obtain ⟨n, z, rfl, k⟩ := h
    refine ⟨_, pss_cons (ps_if (pt_cmpR op_eq (pe_op op_mod (pv 1) pe_int) pe_int (nomark _))
        (pss_one (ps_ret (pe_op op_sub (pe_op op_mod (pe_op op_fdiv (pv 1) pe_int) (pe_op op_add (pe_op op_mul pe_int (pe_op op_pow pe_int pe_int)) pe_int)) (pe_op op_pow pe_int pe_int)))) pss_nil)
      (pss_one (ps_ret (pe_op op_sub (pe_op op_mod (pe_op op_fdiv (pv 1) pe_int) (pe_op op_add (pv 0) pe_int)) pe_int))), ?_⟩
    refine ⟨_, rfl, _, _, rfl, rfl, (by show (0 : Int) < 16; decide), rfl, _, rfl, ite2 (fun e => ?_) (fun e => ?_)⟩
    · refine ⟨_, rfl, _, _, rfl, rfl, ⟨by decide, by decide⟩, _, _, rfl, rfl, ⟨by decide, by decide, by decide⟩, _, _, rfl, rfl, .inl ⟨by decide, by decide⟩, _, _, rfl, rfl, _, _, rfl, rfl, (by show (0 : Int) < 2 * 10 ^ 30 + 1; decide), _, _, rfl, rfl, ⟨by decide, by decide, by decide⟩, _, _, rfl, rfl, k _⟩
    · exact ⟨_, rfl, _, _, rfl, rfl, ⟨by decide, by decide⟩, _, rfl, _, _, rfl, rfl, _, _, rfl, rfl, (by show (0 : Int) < (n : Int) + 3; omega), _, _, rfl, rfl, k _⟩
end
end EH
namespace EH
open PySem PySem.Spec PyProof.Rows L2
theorem steps_len (n : Nat) (ps : List Nat) : (stepsL n ps).length = 2 ^ ps.length := by
  have : ∀ (ps : List Nat) (s : List Nat), (ps.foldl (fun s p => s ++ s.map fun far => far + n / p) s).length = s.length * 2 ^ ps.length := by
    intro ps
    induction ps with
    | nil => intro s; simp
    | cons p r ih =>
      intro s
      rw [List.foldl_cons, ih, List.length_append, List.length_map, List.length_cons, Nat.pow_succ, ← Nat.two_mul, Nat.mul_comm 2, Nat.mul_assoc, Nat.mul_comm 2]
  unfold stepsL
  rw [this]
  simp
theorem steps_few (n : Nat) (ps : List Nat) (h : ps.length ≤ 2) : (stepsL n ps).length ≤ 4 := by
  rw [steps_len]
  exact Nat.pow_le_pow_right (by decide) h
theorem steps_snoc {n : Nat} {ps : List Nat} {i p : Nat} (h : ps[i]? = some p) : stepsL n (ps.take (i + 1)) = stepsL n (ps.take i) ++ (stepsL n (ps.take i)).map fun far => far + n / p := by
  rw [List.take_add_one, h]
  unfold stepsL
  rw [List.foldl_append]
  rfl
section
variable {P : Program} {w : World} {K : PySem.W.Frag} {mg : Str → Option Value} {base : Heap}
def spLSet : Sp := fun vs H Q _ => ∃ (a : Addr) (l : List Int) (n : Nat) (many : Int), vs = [.ref a, vN n, .int many] ∧ Good n ∧ H a = some (.lst (vIs l)) ∧ GoodSet l n many ∧ ∀ H', Same H H' → Q (.bl true) H'
theorem ok_lset {f fN fL : Addr} {fd fdN fdL : FuncData} (F : Fun K "_law_set" "_law_set" sLSet f fd) (GN : FnOk P w K mg base CX0 2 fN fdN ["found", "many"] spNums) (kN : PySem.W.keepIn K (.ref fN) = true) (bN : Binds K fdN ["found", "many"] []) (gN : mg "_law_numbers" = some (.ref fN))
    (GL : FnOk P w K mg base CX0 1 fL fdL ["n"] spLPr) (kL : PySem.W.keepIn K (.ref fL) = true) (bL : Binds K fdL ["n"] []) (gL : mg "_law_primes" = some (.ref fL)) (ms : mg "sum" = none) (ml : mg "len" = none) (mr : mg "range" = none) : FnOk P w K mg base CX0 3 f fd ["found", "n", "many"] spLSet := by
  refine F.ok scLSet (fun vs H Q E h => ?_) (fun cdv A outer s H vs Q E hr h => ?_)
  · obtain ⟨a, l, n, many, rfl, _⟩ := h
    rfl
  · obtain ⟨a, l, n, many, rfl, hG, hH, hS, k⟩ := h
    refine ⟨_, pss_cons (ps_if (PW.pt (pw_or (pt_not (pt_val (pe_call GN hr (by rfl) gN kN bN .nil pass0 (pa_cons (pv 0) (pa_cons (pv 1) pa_nil)))))
        (pw_or1 (pt_cmpR op_ne (pe_callB (cr_sum rfl) (by rfl) ms bt_sum (pa_cons (pv 0) pa_nil)) (pv 2) (nomark _))))) (pss_one (ps_ret pe_bl)) pss_nil)
      (pss_cons (ps_set (i := 3) scLSet.nd rfl (.inl rfl) (pe_lst (pa_cons pe_int pa_nil)))
      (pss_cons (ps_for PassesOwn.never rfl (pi_list (pe_call GL (hr.mono (by decide)) (by rfl) gL kL bL .nil pass0 (pa_cons (pv 1) pa_nil))) (pg_name (i := 4) scLSet.nd rfl (.inr rfl))
        (pss_one (ps_set (i := 3) scLSet.nd rfl (.inl rfl) (pe_op op_cat (pv 3) (pe_lc (own := [("far", 9)]) (g := gName 9) (tt := tYes) (by rfl) scLSet.nd (pi_list (pv 3))
          (blkOk_by (own := [("far", 9)]) (N := ["found", "n", "many", "steps", "p", "hole", "total", "k", "weight", "far"]) (sc := defScope sLSet) (by decide +kernel)) (fun _ _ _ _ _ => pg_name (i := 9) scLSet.nd rfl (Or.inl rfl)) (fun _ _ _ _ _ => pts_nil)
          (fun _ _ _ _ _ => pe_op op_add (pv 9) (pe_op op_fdiv (pv 1) (pv 4))))))))
      (pss_cons (ps_for PassesOwn.never rfl (pi_range1 (by rfl) mr (pa_cons (pv 1) pa_nil)) (pg_name (i := 5) scLSet.nd rfl (.inl rfl))
        (C8.pss_cut (ps_if (PW.pt (pw_and (pt_cmpR op_ne (pe_ix ix_list (pv 0) (pv 5) (fun _ _ => rfl)) pe_int (nomark _)) (pw_and1 (pt_cmpR op_ne (pe_ix ix_list (pv 0) (pv 5) (fun _ _ => rfl)) pe_int (nomark _))))) (pss_one (ps_ret pe_bl)) pss_nil)
        (pss_cons (ps_set (i := 6) scLSet.nd rfl (.inl rfl) pe_int)
        (pss_cons (ps_for PassesOwn.never rfl (pi_range1 (by rfl) mr (pa_cons (pe_callB call_len_seq (by rfl) ml PySem.boot_len (pa_cons (pv 3) pa_nil)) pa_nil)) (pg_name (i := 7) scLSet.nd rfl (.inl rfl))
          (pss_cons (ps_set (i := 8) scLSet.nd rfl (.inl rfl) (pe_ix ix_list (pv 0) (pe_op op_mod (pe_op op_add (pv 5) (pe_ix ix_list (pv 3) (pv 7) (fun _ _ => rfl))) (pv 1)) (fun _ _ => rfl)))
          (C8.pss_cut (ps_if (PW.pt (pw_or (pt_cmpR op_eq (pv 7) pe_int (nomark _)) (pw_or1 (pt_cmpR op_eq (pv 7) pe_int (nomark _))))) (pss_one (ps_set (i := 8) scLSet.nd rfl (.inl rfl) (pe_op op_sub pe_int (pv 8)))) pss_nil)
          (pss_one (ps_set (i := 6) scLSet.nd rfl (.inl rfl) (pe_op op_add (pv 6) (pv 8)))))))
        (pss_one (ps_if (pt_cmpR op_ne (pv 6) pe_int (nomark _)) (pss_one (ps_ret pe_bl)) pss_nil))))))
      (pss_one (ps_ret pe_bl))))), ?_⟩
    have n1 := hG.lo
    have n2 := hG.hi
    have npos : (0 : Int) < (n : Int) := by omega
    refine ⟨_, rfl, _, rfl, a, l, ?_, hH, by rw [hS.len]; omega, fun H1 s1 => ⟨_, rfl, iteF ?_⟩⟩
    · rw [hS.len]; rfl
    have h1 : H1 a = some (.lst (vIs l)) := s1 _ _ hH
    refine ⟨_, rfl, a, l, rfl, .of h1, _, rfl, rfl, _, rfl, iteNS (by rw [hS.sum]) ?_⟩
    refine ⟨(by show 1 ≤ sizeLine; decide), fun s0 ns0 => ?_⟩
    refine ⟨_, rfl, n, rfl, n1, n2, fun H2 c s2 hc ec => ?_⟩
    have h2 : H2 a = some (.lst (vIs l)) := s2 _ _ (same_upd ns0 _ _ h1)
    have S2 : Same H H2 := s1.trans ((same_upd ns0).trans s2)
    refine ⟨c, rfl, ⟨_, .of ec⟩, for_list (K := K) (a := c) (xs := vNs (EH.P n)) (fun i σ H' => ∃ (sa : Addr) (y4 : Option V), σ = [some (.ref a), some (vN n), some (.int many), some (.ref sa), y4, none, none, none, none, none] ∧ Same H2 H' ∧ H' sa = some (.lst (vNs (stepsL n ((EH.P n).take i)))))
      ⟨s0, none, rfl, Same.refl _, s2 _ _ upd_same⟩ (fun i σ H' _ ⟨_, _, _, sm, _⟩ => .of (sm _ _ ec)) ?_ ?_⟩
    · rintro i x H3' H3 hx ⟨sa, y4, rfl, s3, e3⟩
      obtain ⟨p, rfl, hp⟩ := vNs_get hx
      have hp2 := hG.f.two p (List.mem_of_getElem? hp)
      have ppos : (0 : Int) < (p : Int) := by omega
      have few : (stepsL n ((EH.P n).take i)).length ≤ 4 := steps_few _ _ (by rw [List.length_take]; have := hG.few; omega)
      refine ⟨_, rfl, _, rfl, sa, rfl, ⟨_, .of e3⟩, fun D hD => ?_⟩
      have nsD : sa ≠ D := ne_of_none e3 hD
      refine lc_list (K := K) (a := sa) (xs := vNs (stepsL n ((EH.P n).take i))) (fun j H' => Same H3 H' ∧ H' D = some (.lst (vNs (((stepsL n ((EH.P n).take i)).take j).map fun far => far + n / p)))) ⟨same_upd hD, upd_same⟩ (fun j H' _ hP => .of (hP.1 _ _ e3)) ?_ ?_
      · rintro j y H4 hy ⟨s4, d4⟩
        obtain ⟨t, rfl, ht⟩ := vNs_get hy
        refine ⟨rfl, _, rfl, _, rfl, _, rfl, _, _, rfl, rfl, ⟨ppos, (by show (p : Int) < 1073741824; omega)⟩, _, _, rfl, rfl, _, d4, ?_, fun b z e => ?_, ?_⟩
        · rw [List.length_map, List.length_map, List.length_take]
          exact small1000 (by omega)
        · rw [upd_ne (ne_of_none e hD)]
          exact s4 _ _ e
        · rw [upd_same, List.take_add_one, ht]
          unfold vNs
          rw [List.map_append, List.map_append]
          rfl
      · rintro H4 ⟨s4, d4⟩
        rw [List.take_of_length_le (by rw [List.length_map]; exact Nat.le_refl _)] at d4
        refine ⟨sa, D, _, _, rfl, rfl, s4 _ _ e3, d4, ?_, fun q nq => ?_⟩
        · rw [List.length_map, List.length_map, List.length_map]
          exact size420 (by omega)
        · refine ⟨q, _, rfl, s3.trans (s4.trans (same_upd nq)), ?_⟩
          rw [upd_same, steps_snoc hp]
          unfold vNs
          rw [List.map_append]
    · rintro σ H3 ⟨sa, y4, rfl, s3, e3⟩
      rw [List.take_of_length_le (by rw [List.length_map]; exact Nat.le_refl _)] at e3
      have few : (stepsL n (EH.P n)).length ≤ 4 := steps_few _ _ hG.few
      have h3 : H3 a = some (.lst (vIs l)) := s3 _ _ h2
      have ls : (vNs (stepsL n (EH.P n))).length = (stepsL n (EH.P n)).length := List.length_map _
      refine ⟨_, rfl, _, rfl, (by show -(2 ^ 62) ≤ (n : Int); omega), (by show (n : Int) < 2 ^ 62; omega), for_range (lo := 0) (n := n) (fun i σ H' => ∃ (y4 y5 y6 y7 y8 y9 : Option V), σ = [some (.ref a), some (vN n), some (.int many), some (.ref sa), y4, y5, y6, y7, y8, y9] ∧ H' = H3) ⟨_, _, _, _, _, _, rfl, rfl⟩ ?_ ?_⟩
      · rintro h σ H4 hh ⟨y4, y5, y6, y7, y8, y9, rfl, rfl⟩
        rw [Int.zero_add]
        have hl : h < l.length := by rw [hS.len]; exact hh
        have hb := hS.bits h hh
        have ha := hS.alt h hh
        refine ⟨fun σ H' => σ = [some (.ref a), some (vN n), some (.int many), some (.ref sa), y4, some (vN h), y6, y7, y8, y9] ∧ H' = H4, ?_, ?_⟩
        · refine ⟨_, rfl, _, rfl, a, _, _, _, rfl, rfl, .of h3, at_of (j := h) rfl (vIs_at hl), rfl, _, rfl, ?_⟩
          rcases hb with hb | hb
          · rw [hb]
            exact iteF (iteF ⟨rfl, rfl⟩)
          · rw [hb]
            refine iteT ⟨_, rfl, _, rfl, a, _, _, _, rfl, rfl, .of h3, at_of (j := h) rfl (vIs_at hl), rfl, _, rfl, ?_⟩
            rw [hb]
            exact iteF ⟨rfl, rfl⟩
        · rintro σ H5 ⟨rfl, rfl⟩
          refine ⟨_, rfl, sa, _, rfl, .inl (.of e3), _, rfl, (by show -(2 ^ 62) ≤ ((vNs (stepsL n (EH.P n))).length : Int); omega), (by show ((vNs (stepsL n (EH.P n))).length : Int) < 2 ^ 62; omega), for_range (lo := 0) (n := (vNs (stepsL n (EH.P n))).length) (fun j σ H' => ∃ (y7 y8 : Option V), σ = [some (.ref a), some (vN n), some (.int many), some (.ref sa), y4, some (vN h), some (.int (altS l n (stepsL n (EH.P n)) h j)), y7, y8, y9] ∧ H' = H5) ⟨_, _, rfl, rfl⟩ ?_ ?_⟩
          · rintro j σ H6 hj ⟨y7, y8, rfl, rfl⟩
            rw [Int.zero_add]
            have hj' : j < (stepsL n (EH.P n)).length := by omega
            have hx : (h + (stepsL n (EH.P n)).getD j 0) % n < l.length := by rw [hS.len]; exact Nat.mod_lt _ n1
            have hst : (stepsL n (EH.P n))[j]? = some ((stepsL n (EH.P n)).getD j 0) := by
              rw [List.getD_eq_getElem?_getD, List.getElem?_eq_getElem hj']; rfl
            refine ⟨_, rfl, _, rfl, _, rfl, _, rfl, sa, _, _, _, rfl, rfl, .of e3, at_of (j := j) rfl (vNs_at hst), _, _, rfl, rfl, _, rfl, _, _, rfl, rfl, npos, a, _, _, _, rfl, rfl, .of h3, at_of (j := (h + (stepsL n (EH.P n)).getD j 0) % n) rfl (vIs_at hx), ?_⟩
            refine ⟨fun σ H' => σ = [some (.ref a), some (vN n), some (.int many), some (.ref sa), y4, some (vN h), some (.int (altS l n (stepsL n (EH.P n)) h j)), some (vN j), some (.int (wgt l n (stepsL n (EH.P n)) h j)), y9] ∧ H' = H6, ?_, ?_⟩
            · unfold wgt
              by_cases j1 : j = 1
              · rw [if_pos (.inl j1)]
                subst j1
                exact ⟨_, rfl, rfl, _, rfl, iteT (iteT ⟨_, rfl, _, _, rfl, rfl, rfl, rfl⟩)⟩
              · refine ⟨_, rfl, rfl, _, rfl, ?_⟩
                rw [decide_eq_false (fun z => j1 (by have := V.int.inj z; omega))]
                refine iteF ⟨_, rfl, rfl, _, rfl, ?_⟩
                by_cases j2 : j = 2
                · rw [if_pos (.inr j2)]
                  subst j2
                  exact iteT ⟨_, rfl, _, _, rfl, rfl, rfl, rfl⟩
                · rw [decide_eq_false (fun z => j2 (by have := V.int.inj z; omega)), if_neg (fun z => z.elim j1 j2)]
                  exact iteF ⟨rfl, rfl⟩
            · rintro σ H7 ⟨rfl, rfl⟩
              exact ⟨_, rfl, _, rfl, _, _, rfl, rfl, _, _, rfl, rfl⟩
          · rintro σ H6 ⟨y7, y8, rfl, rfl⟩
            rw [ls, ha]
            exact ⟨_, rfl, rfl, _, rfl, iteNS rfl ⟨_, _, _, _, _, _, rfl, rfl⟩⟩
      · rintro σ H4 ⟨y4, y5, y6, y7, y8, y9, rfl, rfl⟩
        exact k _ (S2.trans s3)
end
end EH
namespace EH
open PySem PySem.Spec PyProof.Rows L2
theorem cut_ints (ns : List Int) (lo hi : Option Int) : ∃ ms : List Int, cutV (vIs ns) lo hi = vIs ms ∧ ms.length ≤ ns.length := by
  refine ⟨(ns.drop (HT.sIx (vIs ns).length 0 lo)).take (HT.sIx (vIs ns).length (vIs ns).length hi - HT.sIx (vIs ns).length 0 lo), ?_, ?_⟩
  · unfold cutV vIs
    rw [List.map_take, List.map_drop]
  · rw [List.length_take, List.length_drop]
    omega
theorem vIs_get {l : List Int} {i : Nat} {x : V} (h : (vIs l)[i]? = some x) : ∃ z, x = .int z ∧ i < l.length := by
  have hi := (List.getElem?_eq_some_iff.mp h).1
  rw [List.length_map] at hi
  rw [vIs_at hi] at h
  exact ⟨_, (Option.some.inj h).symm, hi⟩
section
variable {P : Program} {w : World} {K : PySem.W.Frag} {mg : Str → Option Value} {base : Heap}
def spLaw (K : PySem.W.Frag) : Sp := fun vs H Q _ => ∃ (a : Addr) (ns : List Int), vs = [.ref a] ∧ SqL K H a (vIs ns) ∧ ns.length ≤ 63 ∧ ∀ H', Q (.bl true) H'
theorem ok_law {f fW fC fL fD fM fN fS fT : Addr} {fd fdW fdC fdL fdD fdM fdN fdS fdT : FuncData} (F : Fun K "law" "law" sLaw f fd)
    (GW : FnOk P w K mg base CX0 2 fW fdW ["cell"] spWheel) (kW : PySem.W.keepIn K (.ref fW) = true) (bW : Binds K fdW ["cell"] []) (gW : mg "_law_wheel" = some (.ref fW))
    (GC : FnOk P w K mg base CX0 1 fC fdC ["script", "k"] (spCell K)) (kC : PySem.W.keepIn K (.ref fC) = true) (bC : Binds K fdC ["script", "k"] []) (gC : mg "_law_cell_at" = some (.ref fC))
    (GL : FnOk P w K mg base CX0 1 fL fdL ["n"] spLPr) (kL : PySem.W.keepIn K (.ref fL) = true) (bL : Binds K fdL ["n"] []) (gL : mg "_law_primes" = some (.ref fL))
    (GD : FnOk P w K mg base CX0 1 fD fdD ["cells", "many"] (spDrawn K)) (kD : PySem.W.keepIn K (.ref fD) = true) (bD : Binds K fdD ["cells", "many"] []) (gD : mg "_law_drawn" = some (.ref fD))
    (GM : FnOk P w K mg base CX0 1 fM fdM ["n", "cell"] spMany) (kM : PySem.W.keepIn K (.ref fM) = true) (bM : Binds K fdM ["n", "cell"] []) (gM : mg "_law_many" = some (.ref fM))
    (GN : FnOk P w K mg base CX0 1 fN fdN ["primes", "many"] spCan) (kN : PySem.W.keepIn K (.ref fN) = true) (bN : Binds K fdN ["primes", "many"] []) (gN : mg "_law_can" = some (.ref fN))
    (GS : FnOk P w K mg base CX0 4 fS fdS ["n", "many"] spSet) (kS : PySem.W.keepIn K (.ref fS) = true) (bS : Binds K fdS ["n", "many"] []) (gS : mg "setting" = some (.ref fS))
    (GT : FnOk P w K mg base CX0 3 fT fdT ["found", "n", "many"] spLSet) (kT : PySem.W.keepIn K (.ref fT) = true) (bT : Binds K fdT ["found", "n", "many"] []) (gT : mg "_law_set" = some (.ref fT)) :
    FnOk P w K mg base CX0 5 f fd ["script"] (spLaw K) := by
  refine F.ok scLaw (fun vs H Q E h => ?_) (fun cdv A outer s H vs Q E hr h => ?_)
  · obtain ⟨a, ns, rfl, _⟩ := h
    rfl
  · obtain ⟨a, ns, rfl, hS, hlen, k⟩ := h
    refine ⟨_, pss_cons (ps_set (i := 1) scLaw.nd rfl (.inr rfl) (pe_call GW (hr.mono (by decide)) (by rfl) gW kW bW .nil pass0 (pa_cons (pe_call GC (hr.mono (by decide)) (by rfl) gC kC bC .nil pass0 (pa_cons (pv 0) (pa_cons pe_int pa_nil))) pa_nil)))
      (pss_cons (ps_set (i := 2) scLaw.nd rfl (.inl rfl) (pe_call GL (hr.mono (by decide)) (by rfl) gL kL bL .nil pass0 (pa_cons (pv 1) pa_nil)))
      (pss_cons (ps_set (i := 3) scLaw.nd rfl (.inl rfl) pe_int)
      (C8.pss_cut (ps_if (pt_cmpR op_gt (pv 1) pe_int (nomark _)) (pss_one (ps_set (i := 3) scLaw.nd rfl (.inl rfl) pe_int)) pss_nil)
      (pss_cons (ps_set (i := 4) scLaw.nd rfl (.inl rfl) (pe_call GD (hr.mono (by decide)) (by rfl) gD kD bD .nil pass0 (pa_cons (pe_slice sl_list (pv 0) (po_some pe_int) (po_some pe_int)) (pa_cons (pv 3) pa_nil))))
      (pss_cons (ps_setLc (i := 5) (own := [("cell", 9)]) (g := gName 9) (tt := tYes) (by rfl) scLaw.nd rfl rfl (sw_true rfl rfl rfl (by decide +kernel)) (pi_list (pv 4))
        (blkOk_by (own := [("cell", 9)]) (N := ["script", "n", "primes", "asks", "numbers", "drawn", "many", "due", "found", "cell"]) (sc := defScope sLaw) (by decide +kernel)) (fun _ _ _ _ _ => pg_name (i := 9) scLaw.nd rfl (.inl rfl)) (fun _ _ _ _ _ => pts_nil)
        (fun _ _ _ _ _ => pe_call GM (hr.mono (by decide)) (by rfl) gM kM bM .nil pass0 (pa_cons (pv 1) (pa_cons (pv 9) pa_nil))))
      (pss_cons (ps_for PassesOwn.never rfl (pi_list (pe_op op_cat (pe_lst (pa_cons pe_int (pa_cons pe_int (pa_cons (pe_op op_sub (pv 1) pe_int) (pa_cons (pv 1) pa_nil))))) (pv 5))) (pg_name (i := 6) scLaw.nd rfl (.inl rfl))
        (C8.pss_cut (ps_set (i := 7) scLaw.nd rfl (.inl rfl) (pe_and (pe_call GN (hr.mono (by decide)) (by rfl) gN kN bN .nil pass0 (pa_cons (pv 2) (pa_cons (pv 6) pa_nil)))
          (pe_one (pe_call GN (hr.mono (by decide)) (by rfl) gN kN bN .nil pass0 (pa_cons (pv 2) (pa_cons (pe_op op_sub (pv 1) (pv 6)) pa_nil))))))
        (C8.pss_cut (ps_if (pt_cmpR op_eq (pv 1) pe_int (nomark _)) (pss_one (ps_set (i := 7) scLaw.nd rfl (.inl rfl) (pe_cmpR op_eq (pv 6) pe_int (nomark _)))) pss_nil)
        (pss_cons (ps_set (i := 8) scLaw.nd rfl (.inl rfl) (pe_call GS hr (by rfl) gS kS bS .nil pass0 (pa_cons (pv 1) (pa_cons (pv 6) pa_nil))))
        (pss_cons (ps_if (PW.pt (pw_and (pt_val (pv 7)) (pw_and1 (pt_not (pt_val (pe_call GT (hr.mono (by decide)) (by rfl) gT kT bT .nil pass0 (pa_cons (pv 8) (pa_cons (pv 1) (pa_cons (pv 6) pa_nil))))))))) (pss_one (ps_ret pe_bl)) pss_nil)
        (pss_one (ps_if (PW.pt (pw_and (pt_not (pt_val (pv 7))) (pw_and1 (pt_cmpR op_notN (pv 8) pe_non (nomark _))))) (pss_one (ps_ret pe_bl)) pss_nil)))))))
      (pss_one (ps_ret pe_bl)))))))), ?_⟩
    refine ⟨_, rfl, a, ns, rfl, hS, fun z0 => ⟨z0, rfl, fun H1 n s1 hG => ?_⟩⟩
    have n1 := hG.lo
    have n2 := hG.hi
    refine ⟨_, rfl, n, rfl, n1, n2, fun H2 c s2 hc ec => ?_⟩
    refine ⟨fun σ H' => ∃ m : Nat, σ = [some (.ref a), some (vN n), some (.ref c), some (vN m), none, none, none, none, none, none] ∧ 1 ≤ m ∧ m ≤ 100 ∧ H' = H2, ?_, ?_⟩
    · refine ⟨_, rfl, _, _, rfl, rfl, _, rfl, ite2 (fun e => ?_) (fun e => ?_)⟩
      · exact ⟨4, rfl, by decide, by decide, rfl⟩
      · exact ⟨12, rfl, by decide, by decide, rfl⟩
    · rintro σ H3 ⟨m, rfl, m1, m2, rfl⟩
      have S2 : SqL K H3 a (vIs ns) := (s1.trans s2).seq hS
      refine ⟨_, rfl, 1, rfl, 81, rfl, a, _, rfl, S2, fun d nd => ?_⟩
      obtain ⟨ms, ems, lms⟩ := cut_ints ns (some 1) (some 81)
      rw [ems]
      refine ⟨_, rfl, d, ms, m, rfl, m1, m2, .of upd_same, by omega, fun H4 nu nl s4 hnu enu lnu => ?_⟩
      refine ⟨_, rfl, nu, rfl, ⟨_, .of enu⟩, fun D hD => ?_⟩
      refine lc_list (K := K) (a := nu) (xs := vIs nl) (fun i H' => Same H4 H' ∧ ∃ l : List Int, H' D = some (.lst (vIs l)) ∧ l.length = i) ⟨same_upd hD, [], upd_same, rfl⟩ (fun i H' _ hP => .of (hP.1 _ _ enu)) ?_ ?_
      · rintro i x H5 hx ⟨s5, l, d5, el⟩
        obtain ⟨z, rfl, hi⟩ := vIs_get hx
        refine ⟨rfl, _, rfl, _, rfl, n, z, rfl, fun v => ⟨_, d5, ?_, fun b x e => ?_, l ++ [v], ?_, by simp [el]⟩⟩
        · rw [List.length_map]
          exact small1000 (by omega)
        · rw [upd_ne (ne_of_none e hD)]
          exact s5 _ _ e
        · rw [upd_same]
          unfold vIs
          rw [List.map_append]; rfl
      · rintro H5 ⟨s5, l, d5, el⟩
        have ec5 : H5 c = some (.lst (vNs (EH.P n))) := s5 _ _ (s4 _ _ (same_upd nd _ _ ec))
        refine ⟨_, rfl, _, _, rfl, rfl, _, rfl, (by show 4 ≤ sizeLine; decide), fun e1 ne1 => ?_⟩
        have nDe : D ≠ e1 := ne_of_none d5 ne1
        refine ⟨_, rfl, e1, D, _, _, rfl, rfl, upd_same, (upd_ne nDe).trans d5, ?_, fun e2 ne2 => ?_⟩
        · rw [List.length_map, el]
          show 4 + _ ≤ sizeLine
          exact size420 (by rw [List.length_map]; omega)
        rw [show [V.int 0, V.int 1, V.int ((n : Int) - 1), V.int (n : Int)] ++ vIs l = vIs ([0, 1, (n : Int) - 1, (n : Int)] ++ l) from rfl]
        generalize hH6 : upd (upd H5 e1 (.lst [V.int 0, V.int 1, V.int ((n : Int) - 1), V.int (n : Int)])) e2 (.lst (vIs ([0, 1, (n : Int) - 1, (n : Int)] ++ l))) = H6
        have e6 : H6 e2 = some (.lst (vIs ([0, 1, (n : Int) - 1, (n : Int)] ++ l))) := by rw [← hH6]; exact upd_same
        have ec6 : H6 c = some (.lst (vNs (EH.P n))) := by rw [← hH6]; exact same_upd ne2 _ _ (same_upd ne1 _ _ ec5)
        refine ⟨e2, rfl, ⟨_, .of e6⟩, for_list (K := K) (a := e2) (xs := vIs ([0, 1, (n : Int) - 1, (n : Int)] ++ l)) (fun i σ H' => ∃ y6 y7 y8 : Option V, σ = [some (.ref a), some (vN n), some (.ref c), some (vN m), some (.ref nu), some (.ref D), y6, y7, y8, none] ∧ Same H6 H')
          ⟨none, none, none, rfl, Same.refl _⟩ (fun i σ H' _ ⟨_, _, _, _, sm⟩ => .of (sm _ _ e6)) ?_ ?_⟩
        · rintro i x σ H7 hx ⟨y6, y7, y8, rfl, s7⟩
          obtain ⟨z, rfl, _⟩ := vIs_get hx
          have ec7 := s7 _ _ ec6
          have main := setting_main hG z
          refine ⟨fun σ H' => σ = [some (.ref a), some (vN n), some (.ref c), some (vN m), some (.ref nu), some (.ref D), some (.int z), some (.bl (canM (EH.P n) z && canM (EH.P n) ((n : Int) - z))), y8, none] ∧ H' = H7, ?_, ?_⟩
          · refine ⟨_, rfl, _, rfl, c, n, z, rfl, hG, ec7, _, rfl, ?_⟩
            cases canM (EH.P n) z with
            | false => exact iteF ⟨rfl, rfl⟩
            | true => exact iteT ⟨_, rfl, _, rfl, _, rfl, _, _, rfl, rfl, c, n, _, rfl, hG, ec7, rfl, rfl⟩
          · rintro σ H8 ⟨rfl, rfl⟩
            refine ⟨fun σ H' => σ = [some (.ref a), some (vN n), some (.ref c), some (vN m), some (.ref nu), some (.ref D), some (.int z), some (.bl (due n z)), y8, none] ∧ H' = H8, ?_, ?_⟩
            · refine ⟨_, rfl, rfl, _, rfl, ite2 (fun e => ?_) (fun e => ?_)⟩
              · have h1 : n = 1 := by have := V.int.inj (of_decide_eq_true e); omega
                refine ⟨_, rfl, rfl, ?_, rfl⟩
                unfold due
                rw [if_pos h1, dec_eqI]
                rfl
              · have h1 : ¬ n = 1 := fun q => e (decide_eq_true (by rw [q]; rfl))
                unfold due
                rw [if_neg h1]
                exact ⟨rfl, rfl⟩
            · rintro σ H9 ⟨rfl, rfl⟩
              refine ⟨_, rfl, _, rfl, n, z, rfl, hG, fun H10 v s10 hv => ?_⟩
              cases hset : settingM n z with
              | none =>
                rw [hset] at hv main
                cases hv
                have hd : due n z = false := main.1
                rw [hd]
                refine ⟨_, rfl, _, rfl, iteF (iteF ?_)⟩
                refine ⟨_, rfl, _, rfl, iteT ⟨_, rfl, rfl, _, rfl, iteF ⟨_, _, _, rfl, s7.trans s10⟩⟩⟩
              | some sl =>
                rw [hset] at hv main
                obtain ⟨x, rfl, nx, ex⟩ := hv
                have hd : due n z = true := main.1
                rw [hd]
                refine ⟨_, rfl, _, rfl, iteT ?_⟩
                refine ⟨_, rfl, _, rfl, _, rfl, x, sl, n, z, rfl, hG, ex, main.2 sl rfl, fun H11 s11 => ⟨_, rfl, iteF ?_⟩⟩
                exact ⟨_, rfl, _, rfl, iteF (iteF ⟨_, _, _, rfl, s7.trans (s10.trans s11)⟩)⟩
        · rintro σ H7 ⟨y6, y7, y8, rfl, s7⟩
          exact k H7
end
end EH
namespace EH
open PySem PySem.Spec PyProof.Rows L2
theorem all_mk {l : PySem.W.OpenLaw} {w : World} {K : PySem.W.Frag} {h : Heap} {mg : Str → Option Value} {fa fParts fBack fPrR fAddR fLaid fPrS fPSum fGrid fSet fCell fWhole fNums fLPr fWheel fCan fLSet fDrawn fMany fLaw : Addr} (X : K.In h) (G : h.Ns mainGlobals mg) (hfa : mg "law" = some (.ref fa))
    {od0 an0 od1 an1 od2 an2 od3 an3 od4 an4 od5 an5 od6 an6 od7 an7 od8 an8 od9 an9 od10 an10 od11 an11 od12 an12 od13 an13 od14 an14 od15 an15 od16 an16 od17 an17 od18 an18 : Option Addr} {sl0 sl1 sl2 sl3 sl4 sl5 sl6 sl7 sl8 sl9 sl10 sl11 sl12 sl13 sl14 sl15 sl16 sl17 sl18 : Array (Option Value)}
    {oc0 kV0 dc0 pm0 cd0 ct0 oc1 kV1 dc1 pm1 cd1 ct1 oc2 kV2 dc2 pm2 cd2 ct2 oc3 kV3 dc3 pm3 cd3 ct3 oc4 kV4 dc4 pm4 cd4 ct4 oc5 kV5 dc5 pm5 cd5 ct5 oc6 kV6 dc6 pm6 cd6 ct6 oc7 kV7 dc7 pm7 cd7 ct7 oc8 kV8 dc8 pm8 cd8 ct8 oc9 kV9 dc9 pm9 cd9 ct9 oc10 kV10 dc10 pm10 cd10 ct10 oc11 kV11 dc11 pm11 cd11 ct11 oc12 kV12 dc12 pm12 cd12 ct12 oc13 kV13 dc13 pm13 cd13 ct13 oc14 kV14 dc14 pm14 cd14 ct14 oc15 kV15 dc15 pm15 cd15 ct15 oc16 kV16 dc16 pm16 cd16 ct16 oc17 kV17 dc17 pm17 cd17 ct17 oc18 kV18 dc18 pm18 cd18 ct18 : Value}
    (a0 : PySem.W.nsIn K mainGlobals "parts" = some (some (.ref fParts))) (l0 : K.lookup fParts = some ⟨oc0, od0, .func (PySem.W.fnOf "parts" "parts" (defArgs sParts) (defBody sParts) (defScope sParts) .none kV0 dc0 pm0 an0 cd0 ct0), sl0⟩) (c0 : PySem.W.codeIn K cd0 "parts" = true) (k0 : PySem.W.keepIn K (.ref fParts) = true)
    (a1 : PySem.W.nsIn K mainGlobals "back" = some (some (.ref fBack))) (l1 : K.lookup fBack = some ⟨oc1, od1, .func (PySem.W.fnOf "back" "back" (defArgs sBack) (defBody sBack) (defScope sBack) .none kV1 dc1 pm1 an1 cd1 ct1), sl1⟩) (c1 : PySem.W.codeIn K cd1 "back" = true) (k1 : PySem.W.keepIn K (.ref fBack) = true)
    (a2 : PySem.W.nsIn K mainGlobals "primes_of_rings" = some (some (.ref fPrR))) (l2 : K.lookup fPrR = some ⟨oc2, od2, .func (PySem.W.fnOf "primes_of" "primes_of" (defArgs sPrR) (defBody sPrR) (defScope sPrR) .none kV2 dc2 pm2 an2 cd2 ct2), sl2⟩) (c2 : PySem.W.codeIn K cd2 "primes_of" = true) (k2 : PySem.W.keepIn K (.ref fPrR) = true)
    (a3 : PySem.W.nsIn K mainGlobals "add_ring" = some (some (.ref fAddR))) (l3 : K.lookup fAddR = some ⟨oc3, od3, .func (PySem.W.fnOf "add_ring" "add_ring" (defArgs sAddR) (defBody sAddR) (defScope sAddR) .none kV3 dc3 pm3 an3 cd3 ct3), sl3⟩) (c3 : PySem.W.codeIn K cd3 "add_ring" = true) (k3 : PySem.W.keepIn K (.ref fAddR) = true)
    (a4 : PySem.W.nsIn K mainGlobals "laid" = some (some (.ref fLaid))) (l4 : K.lookup fLaid = some ⟨oc4, od4, .func (PySem.W.fnOf "laid" "laid" (defArgs sLaid) (defBody sLaid) (defScope sLaid) .none kV4 dc4 pm4 an4 cd4 ct4), sl4⟩) (c4 : PySem.W.codeIn K cd4 "laid" = true) (k4 : PySem.W.keepIn K (.ref fLaid) = true)
    (a5 : PySem.W.nsIn K mainGlobals "primes_of_stacks" = some (some (.ref fPrS))) (l5 : K.lookup fPrS = some ⟨oc5, od5, .func (PySem.W.fnOf "primes_of" "primes_of" (defArgs sPrS) (defBody sPrS) (defScope sPrS) .none kV5 dc5 pm5 an5 cd5 ct5), sl5⟩) (c5 : PySem.W.codeIn K cd5 "primes_of" = true) (k5 : PySem.W.keepIn K (.ref fPrS) = true)
    (a6 : PySem.W.nsIn K mainGlobals "prime_sum" = some (some (.ref fPSum))) (l6 : K.lookup fPSum = some ⟨oc6, od6, .func (PySem.W.fnOf "prime_sum" "prime_sum" (defArgs sPSum) (defBody sPSum) (defScope sPSum) .none kV6 dc6 pm6 an6 cd6 ct6), sl6⟩) (c6 : PySem.W.codeIn K cd6 "prime_sum" = true) (k6 : PySem.W.keepIn K (.ref fPSum) = true)
    (a7 : PySem.W.nsIn K mainGlobals "grid_rows" = some (some (.ref fGrid))) (l7 : K.lookup fGrid = some ⟨oc7, od7, .func (PySem.W.fnOf "grid_rows" "grid_rows" (defArgs sGrid) (defBody sGrid) (defScope sGrid) .none kV7 dc7 pm7 an7 cd7 ct7), sl7⟩) (c7 : PySem.W.codeIn K cd7 "grid_rows" = true) (k7 : PySem.W.keepIn K (.ref fGrid) = true)
    (a8 : PySem.W.nsIn K mainGlobals "setting" = some (some (.ref fSet))) (l8 : K.lookup fSet = some ⟨oc8, od8, .func (PySem.W.fnOf "setting" "setting" (defArgs sSet) (defBody sSet) (defScope sSet) .none kV8 dc8 pm8 an8 cd8 ct8), sl8⟩) (c8 : PySem.W.codeIn K cd8 "setting" = true) (k8 : PySem.W.keepIn K (.ref fSet) = true)
    (a9 : PySem.W.nsIn K mainGlobals "_law_cell_at" = some (some (.ref fCell))) (l9 : K.lookup fCell = some ⟨oc9, od9, .func (PySem.W.fnOf "_law_cell_at" "_law_cell_at" (defArgs sCell) (defBody sCell) (defScope sCell) .none kV9 dc9 pm9 an9 cd9 ct9), sl9⟩) (c9 : PySem.W.codeIn K cd9 "_law_cell_at" = true) (k9 : PySem.W.keepIn K (.ref fCell) = true)
    (a10 : PySem.W.nsIn K mainGlobals "_law_whole" = some (some (.ref fWhole))) (l10 : K.lookup fWhole = some ⟨oc10, od10, .func (PySem.W.fnOf "_law_whole" "_law_whole" (defArgs sWhole) (defBody sWhole) (defScope sWhole) .none kV10 dc10 pm10 an10 cd10 ct10), sl10⟩) (c10 : PySem.W.codeIn K cd10 "_law_whole" = true) (k10 : PySem.W.keepIn K (.ref fWhole) = true)
    (a11 : PySem.W.nsIn K mainGlobals "_law_numbers" = some (some (.ref fNums))) (l11 : K.lookup fNums = some ⟨oc11, od11, .func (PySem.W.fnOf "_law_numbers" "_law_numbers" (defArgs sNums) (defBody sNums) (defScope sNums) .none kV11 dc11 pm11 an11 cd11 ct11), sl11⟩) (c11 : PySem.W.codeIn K cd11 "_law_numbers" = true) (k11 : PySem.W.keepIn K (.ref fNums) = true)
    (a12 : PySem.W.nsIn K mainGlobals "_law_primes" = some (some (.ref fLPr))) (l12 : K.lookup fLPr = some ⟨oc12, od12, .func (PySem.W.fnOf "_law_primes" "_law_primes" (defArgs sLPr) (defBody sLPr) (defScope sLPr) .none kV12 dc12 pm12 an12 cd12 ct12), sl12⟩) (c12 : PySem.W.codeIn K cd12 "_law_primes" = true) (k12 : PySem.W.keepIn K (.ref fLPr) = true)
    (a13 : PySem.W.nsIn K mainGlobals "_law_wheel" = some (some (.ref fWheel))) (l13 : K.lookup fWheel = some ⟨oc13, od13, .func (PySem.W.fnOf "_law_wheel" "_law_wheel" (defArgs sWheel) (defBody sWheel) (defScope sWheel) .none kV13 dc13 pm13 an13 cd13 ct13), sl13⟩) (c13 : PySem.W.codeIn K cd13 "_law_wheel" = true) (k13 : PySem.W.keepIn K (.ref fWheel) = true)
    (a14 : PySem.W.nsIn K mainGlobals "_law_can" = some (some (.ref fCan))) (l14 : K.lookup fCan = some ⟨oc14, od14, .func (PySem.W.fnOf "_law_can" "_law_can" (defArgs sCan) (defBody sCan) (defScope sCan) .none kV14 dc14 pm14 an14 cd14 ct14), sl14⟩) (c14 : PySem.W.codeIn K cd14 "_law_can" = true) (k14 : PySem.W.keepIn K (.ref fCan) = true)
    (a15 : PySem.W.nsIn K mainGlobals "_law_set" = some (some (.ref fLSet))) (l15 : K.lookup fLSet = some ⟨oc15, od15, .func (PySem.W.fnOf "_law_set" "_law_set" (defArgs sLSet) (defBody sLSet) (defScope sLSet) .none kV15 dc15 pm15 an15 cd15 ct15), sl15⟩) (c15 : PySem.W.codeIn K cd15 "_law_set" = true) (k15 : PySem.W.keepIn K (.ref fLSet) = true)
    (a16 : PySem.W.nsIn K mainGlobals "_law_drawn" = some (some (.ref fDrawn))) (l16 : K.lookup fDrawn = some ⟨oc16, od16, .func (PySem.W.fnOf "_law_drawn" "_law_drawn" (defArgs sDrawn) (defBody sDrawn) (defScope sDrawn) .none kV16 dc16 pm16 an16 cd16 ct16), sl16⟩) (c16 : PySem.W.codeIn K cd16 "_law_drawn" = true) (k16 : PySem.W.keepIn K (.ref fDrawn) = true)
    (a17 : PySem.W.nsIn K mainGlobals "_law_many" = some (some (.ref fMany))) (l17 : K.lookup fMany = some ⟨oc17, od17, .func (PySem.W.fnOf "_law_many" "_law_many" (defArgs sMany) (defBody sMany) (defScope sMany) .none kV17 dc17 pm17 an17 cd17 ct17), sl17⟩) (c17 : PySem.W.codeIn K cd17 "_law_many" = true) (k17 : PySem.W.keepIn K (.ref fMany) = true)
    (a18 : PySem.W.nsIn K mainGlobals "law" = some (some (.ref fLaw))) (l18 : K.lookup fLaw = some ⟨oc18, od18, .func (PySem.W.fnOf "law" "law" (defArgs sLaw) (defBody sLaw) (defScope sLaw) .none kV18 dc18 pm18 an18 cd18 ct18), sl18⟩) (c18 : PySem.W.codeIn K cd18 "law" = true) (k18 : PySem.W.keepIn K (.ref fLaw) = true)
    (z0 : PySem.W.nsIn K mainGlobals "len" = some none) (z1 : PySem.W.nsIn K mainGlobals "range" = some none) (z2 : PySem.W.nsIn K mainGlobals "isinstance" = some none) (z3 : PySem.W.nsIn K mainGlobals "int" = some none) (z4 : PySem.W.nsIn K mainGlobals "bool" = some none) (z5 : PySem.W.nsIn K mainGlobals "list" = some none) (z6 : PySem.W.nsIn K mainGlobals "all" = some none) (z7 : PySem.W.nsIn K mainGlobals "sum" = some none) :
    ∃ fd : FuncData, (∀ (s : Shared) (v : Value), BindsTo s fd ⟨[v], []⟩ [("script", v)]) ∧ ∀ base : Heap, K.In base → base.Ns mainGlobals mg → FnOk l.prog w K mg base CX0 5 fa fd ["script"] (spLaw K) := by
  have e := hfa.symm.trans (PySem.W.mg_of X G a18)
  cases e
  have FParts := fun_mk (st := sParts) l0 c0 k0
  have FBack := fun_mk (st := sBack) l1 c1 k1
  have FPrR := fun_mk (st := sPrR) l2 c2 k2
  have FAddR := fun_mk (st := sAddR) l3 c3 k3
  have FLaid := fun_mk (st := sLaid) l4 c4 k4
  have FPrS := fun_mk (st := sPrS) l5 c5 k5
  have FPSum := fun_mk (st := sPSum) l6 c6 k6
  have FGrid := fun_mk (st := sGrid) l7 c7 k7
  have FSet := fun_mk (st := sSet) l8 c8 k8
  have FCell := fun_mk (st := sCell) l9 c9 k9
  have FWhole := fun_mk (st := sWhole) l10 c10 k10
  have FNums := fun_mk (st := sNums) l11 c11 k11
  have FLPr := fun_mk (st := sLPr) l12 c12 k12
  have FWheel := fun_mk (st := sWheel) l13 c13 k13
  have FCan := fun_mk (st := sCan) l14 c14 k14
  have FLSet := fun_mk (st := sLSet) l15 c15 k15
  have FDrawn := fun_mk (st := sDrawn) l16 c16 k16
  have FMany := fun_mk (st := sMany) l17 c17 k17
  have FLaw := fun_mk (st := sLaw) l18 c18 k18
  have bParts := FParts.binds (ps := ["n"]) fun _ _ _ _ _ _ us hl => match us, hl with | [_], _ => rfl
  have bBack := FBack.binds (ps := ["step", "n"]) fun _ _ _ _ _ _ us hl => match us, hl with | [_, _], _ => rfl
  have bPrR := FPrR.binds (ps := ["n"]) fun _ _ _ _ _ _ us hl => match us, hl with | [_], _ => rfl
  have bAddR := FAddR.binds (ps := ["load", "p", "hole", "many"]) fun _ _ _ _ _ _ us hl => match us, hl with | [_, _, _, _], _ => rfl
  have bLaid := FLaid.binds (ps := ["n", "rows"]) fun _ _ _ _ _ _ us hl => match us, hl with | [_, _], _ => rfl
  have bPrS := FPrS.binds (ps := ["n"]) fun _ _ _ _ _ _ us hl => match us, hl with | [_], _ => rfl
  have bPSum := FPSum.binds (ps := ["n", "many"]) fun _ _ _ _ _ _ us hl => match us, hl with | [_, _], _ => rfl
  have bGrid := FGrid.binds (ps := ["n", "primes", "counts", "first"]) fun _ _ _ _ _ _ us hl => match us, hl with | [_, _, _, _], _ => rfl
  have bSet := FSet.binds (ps := ["n", "many"]) fun _ _ _ _ _ _ us hl => match us, hl with | [_, _], _ => rfl
  have bCell := FCell.binds (ps := ["script", "k"]) fun _ _ _ _ _ _ us hl => match us, hl with | [_, _], _ => rfl
  have bWhole := FWhole.binds (ps := ["found"]) fun _ _ _ _ _ _ us hl => match us, hl with | [_], _ => rfl
  have bNums := FNums.binds (ps := ["found", "many"]) fun _ _ _ _ _ _ us hl => match us, hl with | [_, _], _ => rfl
  have bLPr := FLPr.binds (ps := ["n"]) fun _ _ _ _ _ _ us hl => match us, hl with | [_], _ => rfl
  have bWheel := FWheel.binds (ps := ["cell"]) fun _ _ _ _ _ _ us hl => match us, hl with | [_], _ => rfl
  have bCan := FCan.binds (ps := ["primes", "many"]) fun _ _ _ _ _ _ us hl => match us, hl with | [_, _], _ => rfl
  have bLSet := FLSet.binds (ps := ["found", "n", "many"]) fun _ _ _ _ _ _ us hl => match us, hl with | [_, _, _], _ => rfl
  have bDrawn := FDrawn.binds (ps := ["cells", "many"]) fun _ _ _ _ _ _ us hl => match us, hl with | [_, _], _ => rfl
  have bMany := FMany.binds (ps := ["n", "cell"]) fun _ _ _ _ _ _ us hl => match us, hl with | [_, _], _ => rfl
  have gParts := PySem.W.mg_of X G a0
  have gBack := PySem.W.mg_of X G a1
  have gPrR := PySem.W.mg_of X G a2
  have gAddR := PySem.W.mg_of X G a3
  have gLaid := PySem.W.mg_of X G a4
  have gPrS := PySem.W.mg_of X G a5
  have gPSum := PySem.W.mg_of X G a6
  have gGrid := PySem.W.mg_of X G a7
  have gSet := PySem.W.mg_of X G a8
  have gCell := PySem.W.mg_of X G a9
  have gWhole := PySem.W.mg_of X G a10
  have gNums := PySem.W.mg_of X G a11
  have gLPr := PySem.W.mg_of X G a12
  have gWheel := PySem.W.mg_of X G a13
  have gCan := PySem.W.mg_of X G a14
  have gLSet := PySem.W.mg_of X G a15
  have gDrawn := PySem.W.mg_of X G a16
  have gMany := PySem.W.mg_of X G a17
  have mlen := PySem.W.mg_none_of X G z0
  have mrange := PySem.W.mg_none_of X G z1
  have misinstance := PySem.W.mg_none_of X G z2
  have mint := PySem.W.mg_none_of X G z3
  have mbool := PySem.W.mg_none_of X G z4
  have mlist := PySem.W.mg_none_of X G z5
  have mall := PySem.W.mg_none_of X G z6
  have msum := PySem.W.mg_none_of X G z7
  refine ⟨PySem.W.fnOf "law" "law" (defArgs sLaw) (defBody sLaw) (defScope sLaw) .none kV18 dc18 pm18 an18 cd18 ct18, fun s v => .of_eq rfl, fun base _ _ => ?_⟩
  have GBack : FnOk l.prog w K mg base CX0 1 _ _ _ _ := ok_back FBack
  have GPrR : FnOk l.prog w K mg base CX0 2 _ _ _ _ := ok_prR FPrR FParts bParts gParts
  have GPrS : FnOk l.prog w K mg base CX0 2 _ _ _ _ := ok_prS FPrS FParts bParts gParts mlen
  have GAddR : FnOk l.prog w K mg base CX0 1 _ _ _ _ := ok_addR FAddR mlen mrange
  have GLaid : FnOk l.prog w K mg base CX0 3 _ _ _ _ := ok_laid FLaid GPrR FPrR.kp bPrR gPrR GAddR FAddR.kp bAddR gAddR
  have GPSum : FnOk l.prog w K mg base CX0 3 _ _ _ _ := ok_psum FPSum GPrS FPrS.kp bPrS gPrS GBack FBack.kp bBack gBack mlen
  have GGrid : FnOk l.prog w K mg base CX0 1 _ _ _ _ := ok_grid FGrid mrange
  have GSet : FnOk l.prog w K mg base CX0 4 _ _ _ _ := ok_set FSet GPrS FPrS.kp bPrS gPrS GPSum FPSum.kp bPSum gPSum GLaid FLaid.kp bLaid gLaid GGrid FGrid.kp bGrid gGrid mlen mrange
  have GCell : FnOk l.prog w K mg base CX0 1 _ _ _ _ := ok_cell FCell mlen
  have GWhole : FnOk l.prog w K mg base CX0 1 _ _ _ _ := ok_whole FWhole misinstance mint mbool
  have GNums : FnOk l.prog w K mg base CX0 2 _ _ _ _ := ok_nums FNums GWhole FWhole.kp bWhole gWhole misinstance mlist mlen mall
  have GLPr : FnOk l.prog w K mg base CX0 1 _ _ _ _ := ok_lpr FLPr
  have GWheel : FnOk l.prog w K mg base CX0 2 _ _ _ _ := ok_wheel FWheel GLPr FLPr.kp bLPr gLPr
  have GCan : FnOk l.prog w K mg base CX0 1 _ _ _ _ := ok_can FCan mlen mrange
  have GLSet : FnOk l.prog w K mg base CX0 3 _ _ _ _ := ok_lset FLSet GNums FNums.kp bNums gNums GLPr FLPr.kp bLPr gLPr msum mlen mrange
  have GDrawn : FnOk l.prog w K mg base CX0 1 _ _ _ _ := ok_drawn FDrawn mlen mrange
  have GMany : FnOk l.prog w K mg base CX0 1 _ _ _ _ := ok_many FMany
  exact ok_law FLaw GWheel FWheel.kp bWheel gWheel GCell FCell.kp bCell gCell GLPr FLPr.kp bLPr gLPr GDrawn FDrawn.kp bDrawn gDrawn GMany FMany.kp bMany gMany GCan FCan.kp bCan gCan GSet FSet.kp bSet gSet GLSet FLSet.kp bLSet gLSet
end EH
open PySem PySem.W PyProof.Rows in
set_option maxRecDepth 100000 in
set_option maxHeartbeats 0 in
theorem PySem.Challenge.cw_evenhub_k46_whole_settings_holds : PySem.Challenge.rw_evenhub_k46_whole_settings.Holds := by
  w_on; o_law; k_head; (case hw => w_witness2)
  k_fill
  refine L2.walk_of (l := PySem.Challenge.rw_evenhub_k46_whole_settings) (n := 63) (k := 5) (x := "script") (CX := fun _ => L2.CX0) (sp := fun w => EH.spLaw _) rfl (by decide) rfl ⟨rfl, by decide, by decide⟩ (fun w h Y => PySem.W.kIn_of Y) ?F (fun _ _ a ns hl _ hS => ⟨a, ns, rfl, hS, hl, fun _ => rfl⟩) (fun _ _ _ _ _ h => h)
  case F =>
    intro w mg fa h KX G hmg
    refine' EH.all_mk KX G hmg ?a0 ?l0 ?c0 ?k0 ?a1 ?l1 ?c1 ?k1 ?a2 ?l2 ?c2 ?k2 ?a3 ?l3 ?c3 ?k3 ?a4 ?l4 ?c4 ?k4 ?a5 ?l5 ?c5 ?k5 ?a6 ?l6 ?c6 ?k6 ?a7 ?l7 ?c7 ?k7 ?a8 ?l8 ?c8 ?k8 ?a9 ?l9 ?c9 ?k9 ?a10 ?l10 ?c10 ?k10 ?a11 ?l11 ?c11 ?k11 ?a12 ?l12 ?c12 ?k12 ?a13 ?l13 ?c13 ?k13 ?a14 ?l14 ?c14 ?k14 ?a15 ?l15 ?c15 ?k15 ?a16 ?l16 ?c16 ?k16 ?a17 ?l17 ?c17 ?k17 ?a18 ?l18 ?c18 ?k18 ?z0 ?z1 ?z2 ?z3 ?z4 ?z5 ?z6 ?z7
    (case a0 => k_is)
    (case l0 => k_is)
    (case c0 => k_is)
    (case k0 => k_is)
    (case a1 => k_is)
    (case l1 => k_is)
    (case c1 => k_is)
    (case k1 => k_is)
    (case a2 => k_is)
    (case l2 => k_is)
    (case c2 => k_is)
    (case k2 => k_is)
    (case a3 => k_is)
    (case l3 => k_is)
    (case c3 => k_is)
    (case k3 => k_is)
    (case a4 => k_is)
    (case l4 => k_is)
    (case c4 => k_is)
    (case k4 => k_is)
    (case a5 => k_is)
    (case l5 => k_is)
    (case c5 => k_is)
    (case k5 => k_is)
    (case a6 => k_is)
    (case l6 => k_is)
    (case c6 => k_is)
    (case k6 => k_is)
    (case a7 => k_is)
    (case l7 => k_is)
    (case c7 => k_is)
    (case k7 => k_is)
    (case a8 => k_is)
    (case l8 => k_is)
    (case c8 => k_is)
    (case k8 => k_is)
    (case a9 => k_is)
    (case l9 => k_is)
    (case c9 => k_is)
    (case k9 => k_is)
    (case a10 => k_is)
    (case l10 => k_is)
    (case c10 => k_is)
    (case k10 => k_is)
    (case a11 => k_is)
    (case l11 => k_is)
    (case c11 => k_is)
    (case k11 => k_is)
    (case a12 => k_is)
    (case l12 => k_is)
    (case c12 => k_is)
    (case k12 => k_is)
    (case a13 => k_is)
    (case l13 => k_is)
    (case c13 => k_is)
    (case k13 => k_is)
    (case a14 => k_is)
    (case l14 => k_is)
    (case c14 => k_is)
    (case k14 => k_is)
    (case a15 => k_is)
    (case l15 => k_is)
    (case c15 => k_is)
    (case k15 => k_is)
    (case a16 => k_is)
    (case l16 => k_is)
    (case c16 => k_is)
    (case k16 => k_is)
    (case a17 => k_is)
    (case l17 => k_is)
    (case c17 => k_is)
    (case k17 => k_is)
    (case a18 => k_is)
    (case l18 => k_is)
    (case c18 => k_is)
    (case k18 => k_is)
    (case z0 => k_is)
    (case z1 => k_is)
    (case z2 => k_is)
    (case z3 => k_is)
    (case z4 => k_is)
    (case z5 => k_is)
    (case z6 => k_is)
    (case z7 => k_is)
