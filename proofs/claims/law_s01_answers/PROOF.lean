import PyProof.Rows.All
import Wide.All
import OpenK.AllK
import Wide.FinOn
import Open.SpecLaws
import KE.OsGo
import HandS.ForMost
import HandS.ForSpec
import HandS.SetFor
import HandS.Walk
import PySem.Challenge.RW_primechoices_s01_answers
set_option Elab.async false
set_option linter.all false
set_option maxRecDepth 100000
set_option maxHeartbeats 2000000
/-! The mathematics: plain Lean about the specification's functions; no program here. -/
namespace Pc

/-! ### carries, counted -/
/-- how often it is carried (fuel, carry, the two numbers) -/
def Cn (p : Nat) : Nat → Nat → Nat → Nat → Nat
  | 0, _, _, _ => 0
  | f + 1, c, a, b => if a = 0 ∧ b = 0 then 0 else
    if p ≤ a % p + b % p + c then 1 + Cn p f 1 (a / p) (b / p) else Cn p f 0 (a / p) (b / p)

theorem carried_len (p : Nat) : ∀ (f i c a b : Nat), (Kp266.carried p f i c a b).length = Cn p f c a b
  | 0, _, _, _, _ => rfl
  | f + 1, i, c, a, b => by
    unfold Kp266.carried Cn
    by_cases h : a = 0 ∧ b = 0
    · rw [if_pos h, if_pos h]; rfl
    · rw [if_neg h, if_neg h]
      dsimp only
      by_cases q : p ≤ a % p + b % p + c
      · rw [if_pos q, if_pos q, List.length_cons, carried_len p f, Nat.add_comm]
      · rw [if_neg q, if_neg q, carried_len p f]

theorem places_len (p a b : Nat) : (Kp266.places p a b).length = Cn p 24 0 a b := carried_len p 24 0 0 a b

theorem Cn_zero (p f c : Nat) : Cn p f c 0 0 = 0 := by
  cases f with
  | zero => rfl
  | succ f => unfold Cn; rw [if_pos ⟨rfl, rfl⟩]

/-- the carry out of one place -/
def co (p a b c : Nat) : Nat := if p ≤ a % p + b % p + c then 1 else 0

theorem co_le (p a b c : Nat) : co p a b c ≤ 1 := by unfold co; split <;> omega

theorem half (p a b c : Nat) (hp : 2 ≤ p) : 2 * (a / p + b / p + co p a b c) ≤ a + b + c := by
  have ha := Nat.div_add_mod a p
  have hb := Nat.div_add_mod b p
  have h1 : 2 * (a / p) ≤ p * (a / p) := Nat.mul_le_mul_right _ hp
  have h2 : 2 * (b / p) ≤ p * (b / p) := Nat.mul_le_mul_right _ hp
  unfold co
  split <;> omega

/-- one turn of the loop, where there is something left -/
theorem Cn_turn (p f c a b : Nat) (hp : 2 ≤ p) (hc : c ≤ 1) (h : a + b + c < 2 ^ (f + 1)) :
    Cn p (f + 1) c a b = co p a b c + Cn p f (co p a b c) (a / p) (b / p) := by
  by_cases z : a = 0 ∧ b = 0
  · obtain ⟨rfl, rfl⟩ := z
    have e : co p 0 0 c = 0 := by
      unfold co
      rw [if_neg (by rw [Nat.zero_mod]; omega)]
    rw [Cn_zero, e, Nat.zero_div, Cn_zero]
  · show (if a = 0 ∧ b = 0 then 0 else if p ≤ a % p + b % p + c then 1 + Cn p f 1 (a / p) (b / p) else Cn p f 0 (a / p) (b / p)) = _
    rw [if_neg z]
    unfold co
    by_cases q : p ≤ a % p + b % p + c
    · rw [if_pos q, if_pos q]
    · rw [if_neg q, if_neg q]; omega

/-! ### digits, each and one, multiplied -/
def Dg (p : Nat) : Nat → Nat → Nat
  | 0, _ => 1
  | f + 1, n => if n = 0 then 1 else (n % p + 1) * Dg p f (n / p)

theorem fold_mul : ∀ (l : List Nat) (a : Nat), l.foldl (fun (a d : Nat) => a * (d + 1)) a = a * l.foldl (fun (a d : Nat) => a * (d + 1)) 1
  | [], a => by simp
  | d :: l, a => by
    rw [List.foldl_cons, List.foldl_cons, fold_mul l (a * (d + 1)), fold_mul l (1 * (d + 1)), Nat.one_mul, Nat.mul_assoc]

theorem digits_fold (p : Nat) : ∀ (f n : Nat), (Kp266.digitsOf p f n).foldl (fun (a d : Nat) => a * (d + 1)) 1 = Dg p f n
  | 0, _ => rfl
  | f + 1, n => by
    unfold Kp266.digitsOf Dg
    by_cases h : n = 0
    · rw [if_pos h, if_pos h]; rfl
    · rw [if_neg h, if_neg h, List.foldl_cons, fold_mul, digits_fold p f, Nat.one_mul]

theorem spared_eq (p n : Nat) : Kp268.spared p n = Dg p 24 n := digits_fold p 24 n

theorem Dg_zero (p f : Nat) : Dg p f 0 = 1 := by
  cases f with
  | zero => rfl
  | succ f => unfold Dg; rw [if_pos rfl]

theorem Dg_turn (p f n : Nat) (h : n ≠ 0) : Dg p (f + 1) n = (n % p + 1) * Dg p f (n / p) := by
  show (if n = 0 then 1 else (n % p + 1) * Dg p f (n / p)) = _
  rw [if_neg h]

theorem div_lt_pow (p f n : Nat) (hp : 2 ≤ p) (h : n < 2 ^ (f + 1)) : n / p < 2 ^ f := by
  have h1 := Nat.div_add_mod n p
  have h2 : 2 * (n / p) ≤ p * (n / p) := Nat.mul_le_mul_right _ hp
  rw [Nat.pow_succ] at h
  omega

theorem Dg_le (p : Nat) (hp : 2 ≤ p) : ∀ (f n : Nat), n < 2 ^ f → Dg p f n ≤ n + 1
  | 0, n, _ => by show 1 ≤ n + 1; omega
  | f + 1, n, h => by
    by_cases z : n = 0
    · subst z; rw [Dg_zero]; omega
    · rw [Dg_turn p f n z]
      have ih := Dg_le p hp f (n / p) (div_lt_pow p f n hp h)
      have hd := Nat.div_add_mod n p
      have hr := Nat.mod_lt n (show 0 < p by omega)
      have h1 : (n % p + 1) * Dg p f (n / p) ≤ (n % p + 1) * (n / p + 1) := Nat.mul_le_mul_left _ ih
      have h2 : (n % p + 1) * (n / p + 1) = (n % p + 1) * (n / p) + (n % p + 1) := by rw [Nat.mul_add, Nat.mul_one]
      have h3 : (n % p + 1) * (n / p) ≤ p * (n / p) := Nat.mul_le_mul_right _ hr
      omega

theorem Cn_nocarry (p f a b : Nat) (hs : a % p + b % p < p) : Cn p (f + 1) 0 a b = Cn p f 0 (a / p) (b / p) := by
  by_cases z : a = 0 ∧ b = 0
  · obtain ⟨rfl, rfl⟩ := z
    rw [Cn_zero, Nat.zero_div, Cn_zero]
  · show (if a = 0 ∧ b = 0 then 0 else if p ≤ a % p + b % p + 0 then 1 + Cn p f 1 (a / p) (b / p) else Cn p f 0 (a / p) (b / p)) = _
    rw [if_neg z, if_neg (by omega)]

theorem Cn_carry (p f a b : Nat) (hp : 2 ≤ p) (hs : p ≤ a % p + b % p) : Cn p (f + 1) 0 a b ≠ 0 := by
  have z : ¬ (a = 0 ∧ b = 0) := by
    rintro ⟨rfl, rfl⟩
    rw [Nat.zero_mod] at hs
    omega
  show (if a = 0 ∧ b = 0 then 0 else if p ≤ a % p + b % p + 0 then 1 + Cn p f 1 (a / p) (b / p) else Cn p f 0 (a / p) (b / p)) ≠ 0
  rw [if_neg z, if_pos (by omega)]
  omega

theorem divmod_of {p q r x : Nat} (h : x = p * q + r) (hr : r < p) : x / p = q ∧ x % p = r := by
  subst h
  constructor
  · rw [Nat.mul_add_div (by omega), Nat.div_eq_of_lt hr, Nat.add_zero]
  · rw [Nat.mul_add_mod, Nat.mod_eq_of_lt hr]

/-- **it spares all just where nothing is ever carried** -/
theorem bare_iff (p : Nat) (hp : 2 ≤ p) : ∀ (f n : Nat), n < 2 ^ f → (Dg p f n = n + 1 ↔ ∀ k, k ≤ n → Cn p f 0 k (n - k) = 0)
  | 0, n, h => by
    have : n = 0 := by
      rw [Nat.pow_zero] at h
      omega
    subst this
    exact ⟨fun _ _ _ => rfl, fun _ => rfl⟩
  | f + 1, n, h => by
    by_cases z : n = 0
    · subst z
      refine ⟨fun _ k hk => ?_, fun _ => Dg_zero _ _⟩
      have : k = 0 := by omega
      subst this
      exact Cn_zero _ _ _
    · have hm := div_lt_pow p f n hp h
      have ih := bare_iff p hp f (n / p) hm
      have hle := Dg_le p hp f (n / p) hm
      have hd := Nat.div_add_mod n p
      have hr := Nat.mod_lt n (show 0 < p by omega)
      rw [Dg_turn p f n z]
      generalize hM : n / p = m at *
      generalize hR : n % p = r at *
      by_cases zm : m = 0
      · subst zm
        rw [Nat.mul_zero, Nat.zero_add] at hd
        rw [Dg_zero, Nat.mul_one]
        refine ⟨fun _ k hk => ?_, fun _ => by omega⟩
        have e1 : k % p = k := Nat.mod_eq_of_lt (by omega)
        have e2 : (n - k) % p = n - k := Nat.mod_eq_of_lt (by omega)
        rw [Cn_nocarry p f k (n - k) (by omega), Nat.div_eq_of_lt (by omega), Nat.div_eq_of_lt (by omega), Cn_zero]
      · have split : ∀ k, k ≤ n → r = p - 1 → (n - k) / p = m - k / p ∧ k % p + (n - k) % p < p ∧ k / p ≤ m := by
          intro k hk er
          have hk2 := Nat.div_add_mod k p
          have hk3 := Nat.mod_lt k (show 0 < p by omega)
          have hkm : k / p ≤ m := by rw [← hM]; exact Nat.div_le_div_right hk
          have e : n - k = p * (m - k / p) + (r - k % p) := by
            have q : p * (m - k / p) = p * m - p * (k / p) := Nat.mul_sub _ _ _
            have q2 : p * (k / p) ≤ p * m := Nat.mul_le_mul_left _ hkm
            omega
          obtain ⟨d1, d2⟩ := divmod_of e (by omega)
          exact ⟨d1, by omega, hkm⟩
        constructor
        · intro hD k hk
          have h1 : (r + 1) * Dg p f m ≤ (r + 1) * (m + 1) := Nat.mul_le_mul_left _ hle
          have h2 : (r + 1) * (m + 1) = (r + 1) * m + (r + 1) := by rw [Nat.mul_add, Nat.mul_one]
          have h3 : p * m ≤ (r + 1) * m := by omega
          have h4 : p ≤ r + 1 := Nat.le_of_mul_le_mul_right h3 (by omega)
          have er : r = p - 1 := by omega
          have ep : r + 1 = p := by omega
          rw [ep] at hD
          have h5 : p * Dg p f m = p * (m + 1) := by rw [hD, Nat.mul_add, Nat.mul_one]; omega
          have h6 : Dg p f m = m + 1 := Nat.eq_of_mul_eq_mul_left (by omega) h5
          obtain ⟨s1, s2, s3⟩ := split k hk er
          rw [Cn_nocarry p f k (n - k) s2, s1]
          exact ih.mp h6 (k / p) s3
        · intro hA
          have er : r = p - 1 := by
            refine Classical.byContradiction fun hne => ?_
            have hpm : p ≤ p * m := Nat.le_mul_of_pos_right p (by omega)
            have e : n - (p - 1) = p * (m - 1) + (r + 1) := by
              have q : p * (m - 1) = p * m - p := by rw [Nat.mul_sub, Nat.mul_one]
              omega
            obtain ⟨d1, d2⟩ := divmod_of e (by omega)
            have c := hA (p - 1) (by omega)
            refine Cn_carry p f (p - 1) (n - (p - 1)) hp ?_ c
            rw [d2, Nat.mod_eq_of_lt (show p - 1 < p by omega)]
            omega
          have hm1 : Dg p f m = m + 1 := ih.mpr fun k hk => by
            have hkn : p * k ≤ n := by
              have := Nat.mul_le_mul_left p hk
              omega
            obtain ⟨s1, s2, s3⟩ := split (p * k) hkn er
            have c := hA (p * k) hkn
            rw [Cn_nocarry p f _ _ s2, s1, Nat.mul_div_cancel_left k (by omega)] at c
            exact c
          rw [hm1, er, Nat.mul_add, Nat.mul_one]
          have : p - 1 + 1 = p := by omega
          rw [this]
          omega

theorem times_eq (p n k : Nat) : Kp268.times p n k = Cn p 24 0 k (n - k) := places_len p k (n - k)

theorem none_eq (p n : Nat) (hp : 2 ≤ p) (hn : n ≤ 1000000) : Kp268.none_ p n = decide (Kp268.spared p n = n + 1) := by
  have h := bare_iff p hp 24 n (by omega)
  rw [← spared_eq] at h
  unfold Kp268.none_
  rw [Bool.eq_iff_iff, List.all_eq_true, decide_eq_true_iff, h]
  constructor
  · intro a k hk
    have := a k (List.mem_range.mpr (by omega))
    rw [beq_iff_eq, times_eq] at this
    exact this
  · intro a k hk
    rw [beq_iff_eq, times_eq]
    exact a k (by have := List.mem_range.mp hk; omega)

theorem spared_le (p n : Nat) (hp : 2 ≤ p) (hn : n ≤ 1000000) : Kp268.spared p n ≤ n + 1 := by
  rw [spared_eq]
  exact Dg_le p hp 24 n (by omega)

/-! ### ways to choose -/
theorem twos_get : ∀ (l : List Nat) (k : Nat), (Kp268.twos l).getD k 0 = l.getD k 0 + l.getD (k + 1) 0
  | [], k => by simp [Kp268.twos]
  | [a], k => by
    cases k with
    | zero => simp [Kp268.twos]
    | succ k => simp [Kp268.twos]
  | a :: b :: l, k => by
    cases k with
    | zero => simp [Kp268.twos]
    | succ k =>
      have ih := twos_get (b :: l) k
      show (Kp268.twos (b :: l)).getD k 0 = _
      rw [ih]
      rfl

theorem choose_zero (n : Nat) : Kp268.choose n 0 = 1 := by
  cases n <;> rfl
theorem choose_zero_succ (k : Nat) : Kp268.choose 0 (k + 1) = 0 := rfl
theorem choose_succ (n k : Nat) : Kp268.choose (n + 1) (k + 1) = Kp268.choose n k + Kp268.choose n (k + 1) := twos_get (Kp268.row n) k

theorem choose_mul : ∀ (n k : Nat), (k + 1) * Kp268.choose n (k + 1) + k * Kp268.choose n k = n * Kp268.choose n k
  | 0, 0 => rfl
  | 0, k + 1 => by rw [choose_zero_succ, choose_zero_succ]; omega
  | n + 1, 0 => by
    have ih := choose_mul n 0
    rw [choose_zero] at ih
    rw [choose_succ, choose_zero, choose_zero]
    omega
  | n + 1, k + 1 => by
    have i1 := choose_mul n k
    have i2 := choose_mul n (k + 1)
    rw [choose_succ, choose_succ]
    generalize Kp268.choose n k = x at *
    generalize Kp268.choose n (k + 1) = y at *
    generalize Kp268.choose n (k + 1 + 1) = z at *
    simp only [Nat.add_mul, Nat.mul_add, Nat.one_mul] at *
    omega

/-- one turn of the product's loop -/
theorem choose_turn (n i : Nat) (h : i < n) : Kp268.choose n i * (n - i) / (i + 1) = Kp268.choose n (i + 1) := by
  have e := choose_mul n i
  have e2 : Kp268.choose n i * (n - i) = (i + 1) * Kp268.choose n (i + 1) := by
    rw [Nat.mul_sub, Nat.mul_comm _ n, Nat.mul_comm _ i]
    omega
  rw [e2, Nat.mul_div_cancel_left _ (by omega)]

end Pc

/-! The defs of primechoices.triangle: promises and bodies. -/
namespace Pc
open PySem PySem.Spec PyProof.Rows L2
open PySem.W (Codec)

def top (i : Nat) : Stmt := PySem.Challenge.pw_primechoices_s01_answers.main.body.getD i (.Pass ⟨0, 0, 0, 0⟩)
abbrev sPrime : Stmt := top 1
abbrev sWays : Stmt := top 2
abbrev sCarried : Stmt := top 3
abbrev sTimes : Stmt := top 4
abbrev sRowT : Stmt := top 5
abbrev sSpared : Stmt := top 6
abbrev sWhole : Stmt := top 7
abbrev sBare : Stmt := top 8

/-! ### promises -/
/-- a new list of these ints, all else as it was -/
def NewL (H : Hp) (ns : List Int) (Q : VK) : Prop := ∀ (H' : Hp) (q : Addr), Same H H' → H q = none → H' q = some (.lst (ns.map V.int)) → Q (.ref q) H'
/-- a row's times -/
def rowL (p n : Nat) : List Int := (List.range (n + 1)).map fun k => ((Kp268.times p n k : Nat) : Int)

def spPrime : Sp := fun vs H Q _ => ∃ n : Nat, vs = [.int n] ∧ n < 100 ∧ Q (.bl (Kp266.isPrime n)) H
def spWays : Sp := fun vs H Q _ => ∃ n k : Nat, vs = [.int n, .int k] ∧ k ≤ n ∧ n ≤ 60 ∧ Q (.int (Kp268.choose n k : Nat)) H
def spCarried : Sp := fun vs H Q _ => ∃ p a b : Nat, vs = [.int p, .int a, .int b] ∧ 2 ≤ p ∧ p < 100 ∧ a ≤ 1000000 ∧ b ≤ 1000000 ∧ Q (.int ((Kp266.places p a b).length : Nat)) H
def spTimes : Sp := fun vs H Q _ => ∃ p n k : Nat, vs = [.int p, .int n, .int k] ∧ 2 ≤ p ∧ p < 100 ∧ k ≤ n ∧ n ≤ 1000000 ∧ Q (.int (Kp268.times p n k : Nat)) H
def spRowT : Sp := fun vs H Q _ => ∃ p n : Nat, vs = [.int p, .int n] ∧ 2 ≤ p ∧ p < 100 ∧ n ≤ 1000 ∧ NewL H (rowL p n) Q
def spSpared : Sp := fun vs H Q _ => ∃ p n : Nat, vs = [.int p, .int n] ∧ 2 ≤ p ∧ p < 100 ∧ n ≤ 1000000 ∧ Q (.int (Kp268.spared p n : Nat)) H
def spWhole : Sp := fun vs H Q _ => ∃ p n : Nat, vs = [.int p, .int n] ∧ 2 ≤ p ∧ p < 100 ∧ n ≤ 1000 ∧ ∀ H', Same H H' → Q (.bl (Kp268.whole p n)) H'
def spBare : Sp := fun vs H Q _ => ∃ p n : Nat, vs = [.int p, .int n] ∧ 2 ≤ p ∧ p < 100 ∧ n ≤ 1000000 ∧ Q (.bl (Kp268.none_ p n)) H

/-! ### small words -/
theorem same_upd {H : Hp} {p : Addr} {o : HO} (h : H p = none) : Same H (upd H p o) := fun b x e => by
  rw [upd_ne (ne_of_none e h)]
  exact e
theorem if_true_of {c : Bool} {A B : Prop} (hc : c = true) (h : A) : if c = true then A else B := by
  rw [if_pos hc]
  exact h
theorem if_false_of {c : Bool} {A B : Prop} (hc : c = false) (h : B) : if c = true then A else B := by
  rw [hc, if_neg Bool.false_ne_true]
  exact h

section
variable {P : Program} {w : World} {K : PySem.W.Frag} {mg : Str → Option Value} {base : Heap}

/-! ### is_prime -/
theorem isPrime_iff (n : Nat) : Kp266.isPrime n = true ↔ 2 ≤ n ∧ ∀ d, 2 ≤ d → d < n → n % d ≠ 0 := by
  unfold Kp266.isPrime
  rw [Bool.and_eq_true, decide_eq_true_iff, List.all_eq_true]
  refine and_congr_right fun _ => ⟨fun h d h2 hd => ?_, fun h d hd => ?_⟩
  · have q := h d (List.mem_range.mpr hd)
    rw [Bool.or_eq_true, decide_eq_true_iff, bne_iff_ne] at q
    rcases q with q | q
    · omega
    · exact q
  · rw [Bool.or_eq_true, decide_eq_true_iff, bne_iff_ne]
    by_cases h2 : d < 2
    · exact .inl h2
    · exact .inr (h d (by omega) (List.mem_range.mp hd))

theorem mod2 (n i : Nat) : (n : Int) % (2 + (i : Int)) = ((n % (2 + i) : Nat) : Int) := by
  rw [Int.natCast_emod, Int.natCast_add]
  rfl
theorem scPrime : FnScope ["number", "by"] ["number"] (defScope sPrime) := ⟨rfl, rfl, rfl, by decide +kernel, rfl, by decide +kernel, by decide +kernel⟩
theorem ok_prime {f : Addr} {fd : FuncData} {k : Nat} (F : Fun K "is_prime" "is_prime" sPrime f fd) (mr : mg "range" = none) : FnOk P w K mg base CX0 (k + 1) f fd ["number"] spPrime := by
  refine F.ok scPrime (fun vs H Q E h => ?_) (fun cdv A outer s H vs Q E hr h => ?_)
  · obtain ⟨n, rfl, _⟩ := h
    rfl
  · obtain ⟨n, rfl, hn, q⟩ := h
    refine ⟨_, pss_cons (ps_if (pt_cmpR op_lt (pv 0) pe_int (nomark _)) (pss_one (ps_ret pe_bl)) pss_nil)
      (pss_cons (ps_for PassesOwn.never rfl (pi_range2 (by rfl) mr (pa_cons pe_int (pa_cons (pv 0) pa_nil))) (pg_name (i := 1) scPrime.nd rfl (Or.inl rfl))
        (pss_one (ps_if (pt_cmpR op_eq (pe_op op_mod (pv 0) (pv 1)) pe_int (nomark _)) (pss_one (ps_ret pe_bl)) pss_nil)))
      (pss_one (ps_ret pe_bl))), ?_⟩
    refine ⟨_, rfl, _, _, rfl, rfl, _, rfl, ite2 (fun e => ?_) (fun e => ?_)⟩
    · have e1 : (n : Int) < 2 := of_decide_eq_true e
      have e2 : Kp266.isPrime n = false := by
        rw [Bool.eq_false_iff]
        intro z
        have := ((isPrime_iff n).mp z).1
        omega
      rw [e2] at q
      exact q
    · have e1 : ¬ (n : Int) < 2 := fun z => e (decide_eq_true z)
      refine ⟨_, rfl, 2, _, rfl, ⟨by decide, by decide, by omega, by omega⟩, for_range (lo := 2) (n := ((n : Int) - 2).toNat)
        (fun i σ H' => ∃ v : Option V, σ = [some (.int n), v] ∧ H' = H ∧ ∀ d, 2 ≤ d → d < 2 + i → n % d ≠ 0) ⟨none, rfl, rfl, fun d h1 h2 => by omega⟩ ?_ ?_⟩
      · rintro i σ H' hi ⟨v, rfl, rfl, hv⟩
        refine ⟨_, rfl, _, rfl, _, _, rfl, rfl, (by show (0 : Int) < 2 + (i : Int); omega), rfl, _, rfl, ite2 (fun e => ?_) (fun e => ?_)⟩
        · have e3 : ((n : Int) % (2 + (i : Int))) = 0 := V.int.inj (of_decide_eq_true e)
          have e2 : Kp266.isPrime n = false := by
            rw [Bool.eq_false_iff]
            intro z
            refine ((isPrime_iff n).mp z).2 (2 + i) (by omega) (by omega) ?_
            rw [mod2] at e3
            omega
          rw [e2] at q
          exact q
        · have e3 : ¬ ((n : Int) % (2 + (i : Int))) = 0 := fun z => e (decide_eq_true (congrArg V.int z))
          refine ⟨_, rfl, rfl, fun d h1 h2 => ?_⟩
          by_cases hd : d < 2 + i
          · exact hv d h1 hd
          · have ed : d = 2 + i := by omega
            subst ed
            rw [mod2] at e3
            omega
      · rintro σ H' ⟨v, rfl, rfl, hv⟩
        have e2 : Kp266.isPrime n = true := (isPrime_iff n).mpr ⟨by omega, fun d h1 h2 => hv d h1 (by omega)⟩
        rw [e2] at q
        exact q

/-! ### ways -/
theorem scWays : FnScope ["many", "some", "found", "number"] ["many", "some"] (defScope sWays) := ⟨rfl, rfl, rfl, by decide +kernel, rfl, by decide +kernel, by decide +kernel⟩
theorem ok_ways {f : Addr} {fd : FuncData} {k : Nat} (F : Fun K "ways" "ways" sWays f fd) (mr : mg "range" = none) : FnOk P w K mg base CX0 (k + 1) f fd ["many", "some"] spWays := by
  refine F.ok scWays (fun vs H Q E h => ?_) (fun cdv A outer s H vs Q E hr h => ?_)
  · obtain ⟨n, k, rfl, _⟩ := h
    rfl
  · obtain ⟨n, k, rfl, hk, hn, q⟩ := h
    refine ⟨_, pss_cons (ps_set (i := 2) scWays.nd rfl (Or.inl rfl) pe_int)
      (pss_cons (ps_for PassesOwn.never rfl (pi_range1 (by rfl) mr (pa_cons (pv 1) pa_nil)) (pg_name (i := 3) scWays.nd rfl (Or.inl rfl))
        (pss_one (ps_set (i := 2) scWays.nd rfl (Or.inl rfl) (pe_op op_fdiv (pe_op op_mul (pv 2) (pe_op op_sub (pv 0) (pv 3))) (pe_op op_add (pv 3) pe_int)))))
      (pss_one (ps_ret (pv 2)))), ?_⟩
    refine ⟨_, rfl, _, rfl, by omega, by omega, for_range (lo := 0) (n := (k : Int).toNat)
      (fun i σ H' => ∃ v : Option V, σ = [some (.int n), some (.int k), some (.int (Kp268.choose n i : Nat)), v] ∧ H' = H) ⟨none, ?_, rfl⟩ ?_ ?_⟩
    · rw [choose_zero]
      rfl
    · rintro i σ H' hi ⟨v, rfl, rfl⟩
      refine ⟨_, rfl, _, rfl, _, rfl, _, _, rfl, rfl, _, _, rfl, rfl, .inr ⟨by omega, by omega⟩, _, rfl, _, _, rfl, rfl, _, _, rfl, rfl, ⟨by omega, by omega⟩, ?_⟩
      refine ⟨some (.int (0 + (i : Int))), ?_, rfl⟩
      have e : (Kp268.choose n i : Int) * ((n : Int) - (0 + (i : Int))) / (0 + (i : Int) + 1) = (Kp268.choose n (i + 1) : Nat) := by
        rw [← choose_turn n i (by omega), Int.natCast_ediv, Int.natCast_mul, Int.natCast_add, Int.zero_add, Int.natCast_sub (by omega)]
        rfl
      rw [← e]
      rfl
    · rintro σ H' ⟨v, rfl, rfl⟩
      exact ⟨_, rfl, q⟩

/-! ### carried -/
theorem scCarried : FnScope ["prime", "one", "other", "found", "carry"] ["prime", "one", "other"] (defScope sCarried) := ⟨rfl, rfl, rfl, by decide +kernel, rfl, by decide +kernel, by decide +kernel⟩
theorem int_co (p a b c : Nat) : (if decide ((p : Int) ≤ (a : Int) % (p : Int) + (b : Int) % (p : Int) + (c : Int)) = true then (1 : Int) else 0) = ((co p a b c : Nat) : Int) := by
  have e : ((p : Int) ≤ (a : Int) % (p : Int) + (b : Int) % (p : Int) + (c : Int)) ↔ p ≤ a % p + b % p + c := by
    rw [← Int.natCast_emod, ← Int.natCast_emod]
    omega
  unfold co
  by_cases h : p ≤ a % p + b % p + c
  · rw [if_pos (decide_eq_true (e.mpr h)), if_pos h]
    rfl
  · rw [if_neg (fun z => h (e.mp (of_decide_eq_true z))), if_neg h]
    rfl
theorem ok_carried {f : Addr} {fd : FuncData} {k : Nat} (F : Fun K "carried" "carried" sCarried f fd) (mi : mg "int" = none) : FnOk P w K mg base CX0 (k + 1) f fd ["prime", "one", "other"] spCarried := by
  refine F.ok scCarried (fun vs H Q E h => ?_) (fun cdv A outer s H vs Q E hr h => ?_)
  · obtain ⟨p, a, b, rfl, _⟩ := h
    rfl
  · obtain ⟨p, a0, b0, rfl, hp, hp2, ha, hb, q⟩ := h
    refine ⟨_, pss_cons (ps_set (i := 3) scCarried.nd rfl (Or.inl rfl) pe_int)
      (pss_cons (ps_set (i := 4) scCarried.nd rfl (Or.inl rfl) pe_int)
      (pss_cons (ps_while PassesOwn.never (PW.pt (pw_or (pt_cmpR op_gt (pv 1) pe_int (nomark _)) (pw_or (pt_cmpR op_gt (pv 2) pe_int (nomark _)) (pw_or1 (pt_cmpR op_gt (pv 4) pe_int (nomark _))))))
        (pss_cons (ps_set (i := 4) scCarried.nd rfl (Or.inl rfl) (pe_callTy call_int1 (by rfl) mi (by decide +kernel) (pa_cons (pe_cmpR op_ge (pe_op op_add (pe_op op_add (pe_op op_mod (pv 1) (pv 0)) (pe_op op_mod (pv 2) (pv 0))) (pv 4)) (pv 0) (nomark _)) pa_nil)))
        (pss_cons (ps_set (i := 3) scCarried.nd rfl (Or.inl rfl) (pe_op op_add (pv 3) (pv 4)))
        (pss_cons (ps_set (i := 1) scCarried.nd rfl (Or.inl rfl) (pe_op op_fdiv (pv 1) (pv 0)))
        (pss_one (ps_set (i := 2) scCarried.nd rfl (Or.inl rfl) (pe_op op_fdiv (pv 2) (pv 0))))))))
      (pss_one (ps_ret (pv 3))))), ?_⟩
    have hpI : (0 : Int) < (p : Int) := by omega
    refine ⟨fun m σ H' => ∃ a b c F f : Nat, σ = [some (.int p), some (.int a), some (.int b), some (.int F), some (.int c)] ∧ H' = H ∧ m = a + b + c ∧ c ≤ 1 ∧ a + b + c < 2 ^ f ∧ F + Cn p f c a b = (Kp266.places p a0 b0).length,
      ⟨a0 + b0, a0, b0, 0, 0, 24, rfl, rfl, rfl, by omega, by omega, ?_⟩, ?_⟩
    · rw [places_len, Nat.zero_add]
    · rintro m σ H' ⟨a, b, c, F, f, rfl, rfl, rfl, hc, hf, hF⟩
      have body : 0 < a + b + c → ∃ N : L2.St → Hp → Prop, (∀ σ' H'', N σ' H'' → ∃ m', m' < a + b + c ∧ ∃ a b c F f : Nat, σ' = [some (.int p), some (.int a), some (.int b), some (.int F), some (.int c)] ∧ H'' = H' ∧ m' = a + b + c ∧ c ≤ 1 ∧ a + b + c < 2 ^ f ∧ F + Cn p f c a b = (Kp266.places p a0 b0).length) ∧
          N [some (.int p), some (.int ((a : Int) / (p : Int))), some (.int ((b : Int) / (p : Int))), some (.int ((F : Int) + ((co p a b c : Nat) : Int))), some (.int ((co p a b c : Nat) : Int))] H' := fun hpos => by
        have hh := half p a b c hp
        refine ⟨fun σ' H'' => σ' = [some (.int p), some (.int ((a : Int) / (p : Int))), some (.int ((b : Int) / (p : Int))), some (.int ((F : Int) + ((co p a b c : Nat) : Int))), some (.int ((co p a b c : Nat) : Int))] ∧ H'' = H', ?_, rfl, rfl⟩
        rintro σ' H'' ⟨rfl, rfl⟩
        cases f with
        | zero =>
          rw [Nat.pow_zero] at hf
          omega
        | succ f =>
          rw [Cn_turn p f c a b hp hc hf] at hF
          rw [Nat.pow_succ] at hf
          refine ⟨_, (by omega : a / p + b / p + co p a b c < a + b + c), a / p, b / p, co p a b c, F + co p a b c, f, ?_, rfl, rfl, co_le p a b c, by omega, by omega⟩
          rw [Int.natCast_ediv, Int.natCast_ediv, Int.natCast_add]
      have fin : a + b + c = 0 → F = (Kp266.places p a0 b0).length := fun z => by
        have e1 : a = 0 := by omega
        have e2 : b = 0 := by omega
        subst e1 e2
        rw [Cn_zero] at hF
        exact hF
      refine ⟨_, rfl, _, _, rfl, rfl, _, rfl, ite2 (fun e => iteT ?_) (fun e => ⟨_, rfl, _, _, rfl, rfl, _, rfl, ite2 (fun e' => iteT ?_) (fun e' => ⟨_, rfl, _, _, rfl, rfl, _, rfl, ite2 (fun e'' => ?_) (fun e'' => ?_)⟩)⟩)⟩
      rotate_right
      · have n1 : ¬ (0 : Int) < (a : Int) := fun z => e (decide_eq_true z)
        have n2 : ¬ (0 : Int) < (b : Int) := fun z => e' (decide_eq_true z)
        have n3 : ¬ (0 : Int) < (c : Int) := fun z => e'' (decide_eq_true z)
        exact ⟨_, rfl, by rw [fin (by omega)]; exact q⟩
      all_goals
        have hpos : 0 < a + b + c := by
          first
            | (have z : (0 : Int) < (a : Int) := of_decide_eq_true e
               omega)
            | (have z : (0 : Int) < (b : Int) := of_decide_eq_true e'
               omega)
            | (have z : (0 : Int) < (c : Int) := of_decide_eq_true e''
               omega)
        obtain ⟨N, hN, hn⟩ := body hpos
        refine ⟨N, hN, ?_⟩
        refine ⟨_, rfl, _, rfl, _, _, rfl, rfl, hpI, _, rfl, _, rfl, _, _, rfl, rfl, hpI, _, _, rfl, rfl, _, rfl, _, _, rfl, rfl, _, rfl, _, _, rfl, rfl, .inr ⟨_, rfl, ?_⟩⟩
        refine ⟨_, rfl, _, rfl, _, _, rfl, rfl, ?_⟩
        refine ⟨_, rfl, _, rfl, _, _, rfl, rfl, ⟨hpI, by omega⟩, ?_⟩
        refine ⟨_, rfl, _, rfl, _, _, rfl, rfl, ⟨hpI, by omega⟩, ?_⟩
        rw [← int_co] at hn
        exact hn

/-! ### times_at -/
theorem scTimes : FnScope ["prime", "row", "place"] ["prime", "row", "place"] (defScope sTimes) := ⟨rfl, rfl, rfl, by decide +kernel, rfl, by decide +kernel, by decide +kernel⟩
theorem ok_times {f fC : Addr} {fd fdC : FuncData} {k : Nat} (F : Fun K "times_at" "times_at" sTimes f fd) (GC : FnOk P w K mg base CX0 k fC fdC ["prime", "one", "other"] spCarried) (FC : Fun K "carried" "carried" sCarried fC fdC) (bC : Binds K fdC ["prime", "one", "other"] []) (gC : mg "carried" = some (.ref fC)) :
    FnOk P w K mg base CX0 (k + 1) f fd ["prime", "row", "place"] spTimes := by
  refine F.ok scTimes (fun vs H Q E h => ?_) (fun cdv A outer s H vs Q E hr h => ?_)
  · obtain ⟨p, n, k, rfl, _⟩ := h
    rfl
  · obtain ⟨p, n, k, rfl, hp, hp2, hk, hn, q⟩ := h
    refine ⟨_, pss_one (ps_ret (pe_call GC hr (by rfl) gC FC.kp bC .nil pass0 (pa_cons (pv 0) (pa_cons (pv 2) (pa_cons (pe_op op_sub (pv 1) (pv 2)) pa_nil))))), ?_⟩
    refine ⟨_, rfl, _, rfl, _, rfl, _, rfl, _, _, rfl, rfl, p, k, n - k, ?_, hp, hp2, by omega, by omega, q⟩
    rw [Int.natCast_sub hk]
    rfl

/-! ### row_times -/
theorem rowL_len (p n : Nat) : (rowL p n).length = n + 1 := by
  unfold rowL
  rw [List.length_map, List.length_range]
theorem rowL_take (p n i : Nat) (h : i < n + 1) : (rowL p n).take (i + 1) = (rowL p n).take i ++ [((Kp268.times p n i : Nat) : Int)] := by
  rw [List.take_add_one]
  congr 1
  unfold rowL
  rw [List.getElem?_map, List.getElem?_range h]
  rfl
theorem scRowT : FnScope ["prime", "row", "place"] ["prime", "row"] (defScope sRowT) := ⟨rfl, rfl, rfl, by decide +kernel, rfl, by decide +kernel, by decide +kernel⟩
theorem ok_rowT {f fT : Addr} {fd fdT : FuncData} {k : Nat} (F : Fun K "row_times" "row_times" sRowT f fd) (GT : FnOk P w K mg base CX0 k fT fdT ["prime", "row", "place"] spTimes) (FT : Fun K "times_at" "times_at" sTimes fT fdT) (bT : Binds K fdT ["prime", "row", "place"] []) (gT : mg "times_at" = some (.ref fT)) (mr : mg "range" = none) :
    FnOk P w K mg base CX0 (k + 1) f fd ["prime", "row"] spRowT := by
  refine F.ok scRowT (fun vs H Q E h => ?_) (fun cdv A outer s H vs Q E hr h => ?_)
  · obtain ⟨p, n, rfl, _⟩ := h
    rfl
  · obtain ⟨p, n, rfl, hp, hp2, hn, q⟩ := h
    refine ⟨_, pss_one (ps_ret (pe_lc (own := [("place", 2)]) (g := gName 2) (tt := tYes) (by rfl) scRowT.nd (pi_range1 (by rfl) mr (pa_cons (pe_op op_add (pv 1) pe_int) pa_nil)) (blkOk_by (own := [("place", 2)]) (N := ["prime", "row", "place"]) (sc := defScope sRowT) (by decide +kernel))
      (fun _ _ _ _ _ => pg_name (i := 2) scRowT.nd rfl (Or.inl rfl)) (fun _ _ _ _ _ => pts_nil) (fun _ _ _ _ _ => pe_call GT hr (by rfl) gT FT.kp bT .nil pass0 (pa_cons (pv 0) (pa_cons (pv 1) (pa_cons (pv 2) pa_nil)))))), ?_⟩
    refine ⟨_, rfl, _, _, rfl, rfl, _, rfl, by omega, by omega, fun D nD => ?_⟩
    refine lc_range (lo := 0) (n := ((n : Int) + 1).toNat) (fun i H' => Same H H' ∧ H' D = some (.lst (((rowL p n).take i).map V.int))) ⟨same_upd nD, upd_same⟩ ?_ ?_
    · rintro i H' hi ⟨sm, hD⟩
      refine ⟨rfl, ?_⟩
      unfold tYes
      dsimp only
      rw [if_pos rfl]
      refine ⟨_, rfl, _, rfl, _, rfl, p, n, i, ?_, hp, hp2, by omega, by omega, ?_⟩
      · rw [Int.zero_add]
        rfl
      · refine ⟨_, hD, ?_, ?_, ?_⟩
        · rw [List.length_map, List.length_take]
          exact Nat.lt_of_le_of_lt (Nat.min_le_left _ _) (Nat.lt_of_lt_of_le (show i < 1001 by omega) (by decide))
        · intro b o e
          rw [upd_ne (ne_of_none e nD)]
          exact sm b o e
        · rw [upd_same, rowL_take p n i (by omega), List.map_append]
          rfl
    · rintro H' ⟨sm, hD⟩
      refine q H' D sm nD ?_
      rw [hD, List.take_of_length_le]
      rw [rowL_len]
      omega

/-! ### spared -/
theorem scSpared : FnScope ["prime", "row", "found"] ["prime", "row"] (defScope sSpared) := ⟨rfl, rfl, rfl, by decide +kernel, rfl, by decide +kernel, by decide +kernel⟩
theorem ok_spared {f : Addr} {fd : FuncData} {k : Nat} (F : Fun K "spared" "spared" sSpared f fd) : FnOk P w K mg base CX0 (k + 1) f fd ["prime", "row"] spSpared := by
  refine F.ok scSpared (fun vs H Q E h => ?_) (fun cdv A outer s H vs Q E hr h => ?_)
  · obtain ⟨p, n, rfl, _⟩ := h
    rfl
  · obtain ⟨p, n0, rfl, hp, hp2, hn, q⟩ := h
    have hpI : (0 : Int) < (p : Int) := by omega
    refine ⟨_, pss_cons (ps_set (i := 2) scSpared.nd rfl (Or.inl rfl) pe_int)
      (pss_cons (ps_while PassesOwn.never (pt_cmpR op_gt (pv 1) pe_int (nomark _))
        (pss_cons (ps_set (i := 2) scSpared.nd rfl (Or.inl rfl) (pe_op op_mul (pv 2) (pe_op op_add (pe_op op_mod (pv 1) (pv 0)) pe_int)))
        (pss_one (ps_set (i := 1) scSpared.nd rfl (Or.inl rfl) (pe_op op_fdiv (pv 1) (pv 0))))))
      (pss_one (ps_ret (pv 2)))), ?_⟩
    refine ⟨fun m σ H' => ∃ n F f : Nat, σ = [some (.int p), some (.int n), some (.int F)] ∧ H' = H ∧ m = n ∧ n < 2 ^ f ∧ F * Dg p f n = Kp268.spared p n0, ⟨n0, n0, 1, 24, rfl, rfl, rfl, by omega, ?_⟩, ?_⟩
    · rw [spared_eq, Nat.one_mul]
    · rintro m σ H' ⟨n, F, f, rfl, rfl, emn, hf, hF⟩
      rw [emn]
      refine ⟨_, rfl, _, _, rfl, rfl, _, rfl, ite2 (fun e => ?_) (fun e => ?_)⟩
      · have hpos : (0 : Int) < (n : Int) := of_decide_eq_true e
        have hm := Nat.mod_lt n (show 0 < p by omega)
        have em : (n : Int) % (p : Int) = ((n % p : Nat) : Int) := (Int.natCast_emod n p).symm
        refine ⟨fun σ' H'' => σ' = [some (.int p), some (.int ((n / p : Nat) : Int)), some (.int ((F * (n % p + 1) : Nat) : Int))] ∧ H'' = H', ?_, ?_⟩
        · rintro σ' H'' ⟨rfl, rfl⟩
          cases f with
          | zero =>
            rw [Nat.pow_zero] at hf
            omega
          | succ f =>
            refine ⟨n / p, Nat.div_lt_self (by omega) (by omega), n / p, F * (n % p + 1), f, rfl, rfl, rfl, div_lt_pow p f n hp hf, ?_⟩
            rw [Nat.mul_assoc, ← Dg_turn p f n (by omega)]
            exact hF
        · refine ⟨_, rfl, _, rfl, _, rfl, _, _, rfl, rfl, hpI, _, _, rfl, rfl, _, _, rfl, rfl, .inr ?_, ?_⟩
          · show -(2 ^ 64) < (n : Int) % (p : Int) + 1 ∧ (n : Int) % (p : Int) + 1 < 2 ^ 64
            rw [em]
            omega
          · refine ⟨_, rfl, _, rfl, _, _, rfl, rfl, ⟨hpI, by omega⟩, ?_, rfl⟩
            rw [Int.natCast_mul, Int.natCast_add, Int.natCast_ediv, Int.natCast_emod]
            rfl
      · have hz : ¬ (0 : Int) < (n : Int) := fun z => e (decide_eq_true z)
        have ez : n = 0 := by omega
        subst ez
        rw [Dg_zero, Nat.mul_one] at hF
        rw [← hF] at q
        exact ⟨_, rfl, q⟩

/-! ### is_bare -/
theorem scBare : FnScope ["prime", "row"] ["prime", "row"] (defScope sBare) := ⟨rfl, rfl, rfl, by decide +kernel, rfl, by decide +kernel, by decide +kernel⟩
theorem ok_bare {f fS : Addr} {fd fdS : FuncData} {k : Nat} (F : Fun K "is_bare" "is_bare" sBare f fd) (GS : FnOk P w K mg base CX0 k fS fdS ["prime", "row"] spSpared) (FS : Fun K "spared" "spared" sSpared fS fdS) (bS : Binds K fdS ["prime", "row"] []) (gS : mg "spared" = some (.ref fS)) :
    FnOk P w K mg base CX0 (k + 1) f fd ["prime", "row"] spBare := by
  refine F.ok scBare (fun vs H Q E h => ?_) (fun cdv A outer s H vs Q E hr h => ?_)
  · obtain ⟨p, n, rfl, _⟩ := h
    rfl
  · obtain ⟨p, n, rfl, hp, hp2, hn, q⟩ := h
    refine ⟨_, pss_one (ps_ret (pe_cmpR op_eq (pe_call GS hr (by rfl) gS FS.kp bS .nil pass0 (pa_cons (pv 0) (pa_cons (pv 1) pa_nil))) (pe_op op_add (pv 1) pe_int) (nomark _))), ?_⟩
    refine ⟨_, rfl, _, rfl, p, n, rfl, hp, hp2, hn, _, rfl, _, _, rfl, rfl, rfl, ?_⟩
    have e : Kp268.none_ p n = decide (V.int ((Kp268.spared p n : Nat) : Int) = V.int ((n : Int) + 1)) := by
      rw [none_eq p n hp hn]
      refine decide_eq_decide.mpr ⟨fun z => ?_, fun z => ?_⟩
      · rw [z, Int.natCast_add]
        rfl
      · have z' := V.int.inj z
        omega
    rw [e] at q
    exact q

/-! ### is_whole -/
theorem inV_ints (x : Int) (ns : List Int) : inV (V.int x) (ns.map V.int) = decide (x ∈ ns) := by
  unfold inV
  rw [Bool.eq_iff_iff, List.any_eq_true, decide_eq_true_iff]
  constructor
  · rintro ⟨y, hy, e⟩
    obtain ⟨z, hz, rfl⟩ := List.mem_map.mp hy
    have e' : (z == x) = true := e
    rw [beq_iff_eq] at e'
    rw [← e']
    exact hz
  · intro h
    exact ⟨V.int x, List.mem_map.mpr ⟨x, h, rfl⟩, by show (x == x) = true; exact beq_self_eq_true x⟩
theorem flat_ints (ns : List Int) : (ns.map V.int).all flatV = true := by
  rw [List.all_eq_true]
  intro y hy
  obtain ⟨z, _, rfl⟩ := List.mem_map.mp hy
  rfl
theorem cutV_inner (xs : List V) : cutV xs (some 1) (some (-1)) = (xs.drop 1).take (xs.length - 2) := by
  have e1 : HT.sIx xs.length 0 (some 1) = min 1 xs.length := HT.sIx_nat xs.length 0 1
  have e2 : HT.sIx xs.length xs.length (some (-1)) = xs.length - 1 := by
    show (if (-1 : Int) < 0 then ((-1 : Int) + (xs.length : Int)).toNat else min (-1 : Int).toNat xs.length) = xs.length - 1
    rw [if_pos (by decide)]
    omega
  unfold cutV
  rw [e1, e2]
  cases xs with
  | nil => rfl
  | cons x r =>
    have l1 : min 1 (x :: r).length = 1 := by
      rw [List.length_cons]
      omega
    rw [l1, Nat.sub_sub]
theorem whole_eq (p n : Nat) : Kp268.whole p n = !decide ((0 : Int) ∈ ((rowL p n).drop 1).take (n + 1 - 2)) := by
  unfold Kp268.whole
  rw [Bool.eq_iff_iff, List.all_eq_true, Bool.not_eq_true', decide_eq_false_iff_not]
  have get : ∀ i : Nat, (((rowL p n).drop 1).take (n + 1 - 2))[i]? = if i + 1 < n then some ((Kp268.times p n (i + 1) : Nat) : Int) else none := fun i => by
    rw [List.getElem?_take]
    by_cases h : i < n + 1 - 2
    · rw [if_pos h, if_pos (by omega), List.getElem?_drop]
      unfold rowL
      rw [List.getElem?_map, List.getElem?_range (by omega), Nat.add_comm 1 i]
      rfl
    · rw [if_neg h, if_neg (by omega)]
  constructor
  · intro h hm
    obtain ⟨i, hi⟩ := List.mem_iff_getElem?.mp hm
    rw [get i] at hi
    by_cases hin : i + 1 < n
    · rw [if_pos hin] at hi
      have z : ((Kp268.times p n (i + 1) : Nat) : Int) = 0 := Option.some.inj hi
      have q := h (i + 1) (List.mem_range.mpr (by omega))
      rw [Bool.or_eq_true, Bool.or_eq_true, beq_iff_eq, beq_iff_eq, bne_iff_ne] at q
      omega
    · rw [if_neg hin] at hi
      cases hi
  · intro h k hk
    have hk' := List.mem_range.mp hk
    rw [Bool.or_eq_true, Bool.or_eq_true, beq_iff_eq, beq_iff_eq, bne_iff_ne]
    by_cases h0 : k = 0
    · exact .inl (.inl h0)
    · by_cases h1 : k = n
      · exact .inl (.inr h1)
      · refine .inr fun z => h (List.mem_iff_getElem?.mpr ⟨k - 1, ?_⟩)
        rw [get (k - 1), if_pos (by omega), Nat.sub_add_cancel (by omega), z]
        rfl
theorem scWhole : FnScope ["prime", "row"] ["prime", "row"] (defScope sWhole) := ⟨rfl, rfl, rfl, by decide +kernel, rfl, by decide +kernel, by decide +kernel⟩
theorem ok_whole {f fR : Addr} {fd fdR : FuncData} {k : Nat} (F : Fun K "is_whole" "is_whole" sWhole f fd) (GR : FnOk P w K mg base CX0 k fR fdR ["prime", "row"] spRowT) (FR : Fun K "row_times" "row_times" sRowT fR fdR) (bR : Binds K fdR ["prime", "row"] []) (gR : mg "row_times" = some (.ref fR)) :
    FnOk P w K mg base CX0 (k + 1) f fd ["prime", "row"] spWhole := by
  refine F.ok scWhole (fun vs H Q E h => ?_) (fun cdv A outer s H vs Q E hr h => ?_)
  · obtain ⟨p, n, rfl, _⟩ := h
    rfl
  · obtain ⟨p, n, rfl, hp, hp2, hn, q⟩ := h
    refine ⟨_, pss_one (ps_ret (pe_cmpR op_notIn_seq pe_int (pe_slice sl_list (pe_call GR hr (by rfl) gR FR.kp bR .nil pass0 (pa_cons (pv 0) (pa_cons (pv 1) pa_nil))) (po_some pe_int) (po_some (pe_un un_neg pe_int))) (by rfl))), ?_⟩
    refine ⟨_, rfl, _, rfl, p, n, rfl, hp, hp2, hn, fun H1 r sm nr hr1 => ?_⟩
    refine ⟨_, rfl, _, rfl, _, rfl, r, _, rfl, SqL.of hr1, fun c nc => ?_⟩
    have e : cutV ((rowL p n).map V.int) (some 1) (some (-1)) = (((rowL p n).drop 1).take (n + 1 - 2)).map V.int := by
      rw [cutV_inner, List.length_map, rowL_len, List.map_take, List.map_drop]
    refine ⟨c, _, rfl, .inl (SqL.of upd_same), rfl, ?_, ?_⟩
    · show (cutV ((rowL p n).map V.int) (some 1) (some (-1))).all flatV = true
      rw [e]
      exact flat_ints _
    · show Q (.bl (!inV (V.int 0) (cutV ((rowL p n).map V.int) (some 1) (some (-1))))) _
      rw [e, inV_ints, ← whole_eq]
      exact q _ (sm.trans (same_upd nc))
end
end Pc

/-! The defs of primechoices.choices: promises and bodies. -/
namespace Pc
open PySem PySem.Spec PyProof.Rows L2
open PySem.W (Codec)

abbrev sListed : Stmt := top 24
abbrev sBound : Stmt := top 25
abbrev sChoose : Stmt := top 26
abbrev sToldSp : Stmt := top 27
abbrev sFirst : Stmt := top 28
abbrev sOfRows : Stmt := top 29
abbrev sOfRow : Stmt := top 30
abbrev sInit : Stmt := inClass (top 31) 0
abbrev sPut : Stmt := inClass (top 31) 1
abbrev sAnswer : Stmt := inClass (top 31) 2
abbrev sAns : Stmt := top 32

/-! ### a written dict with int keys and int values: d.get(k, x) -/
def EntI (e : DictEntry) (p : Int × Int) : Prop := (∃ t, e.key = .int p.1 t) ∧ e.hash = hashInt p.1 ∧ ∃ t, e.val = .int p.2 t
structure KDI (K : PySem.W.Frag) (d : Addr) (kvs : List (Int × Int)) : Prop where
  ex : ∃ (es : List DictEntry) (n : Nat), K.lookup d = some ⟨.type "dict", none, .dict es.toArray n, #[]⟩ ∧ Paired EntI es kvs
  low : (d == sysModules) = false
theorem entI_find {es : List DictEntry} {kvs : List (Int × Int)} (h : Paired EntI es kvs) (k : Int) : RelO ((kvs.lookup k).map V.int) ((es.find? fun e => Value.isInt k e.key).map (·.val)) := by
  induction h with
  | nil => trivial
  | @cons e p l1 l2 hh tl ih =>
    obtain ⟨⟨t, hk⟩, hash, ⟨u, hv⟩⟩ := hh
    obtain ⟨pk, pv⟩ := p
    rw [List.find?_cons, List.lookup_cons]
    have e1 : Value.isInt k e.key = (k == pk) := by
      rw [hk, Bool.eq_iff_iff, beq_iff_eq]
      constructor
      · intro z
        obtain ⟨t', e'⟩ := Value.isInt_shape z
        injection e' with e1 _
        exact e1.symm
      · intro z
        rw [z]
        simp [Value.isInt]
    rw [e1]
    cases hb : k == pk with
    | true =>
      show RelV (V.int pv) e.val
      exact ⟨u, hv⟩
    | false => exact ih
theorem entI_keys {prog : Program} {w : World} {es : List DictEntry} {kvs : List (Int × Int)} (h : Paired EntI es kvs) : ∀ e ∈ es, ∃ k, (PySem.intKind prog w).is k e.key = true ∧ e.hash = (PySem.intKind prog w).hash k := by
  induction h with
  | nil => intro e he; cases he
  | @cons e p l1 l2 hh tl ih =>
    intro e' he
    rcases List.mem_cons.mp he with rfl | he
    · obtain ⟨⟨t, hk⟩, hash, _⟩ := hh
      exact ⟨p.1, by rw [hk]; exact PySem.intKind_is prog w p.1 t, hash⟩
    · exact ih e' he
def tKGet (kvs : List (Int × Int)) (ty tx : TE) : TE := fun σ H Q => ty σ H fun y H2 => tx σ H2 fun z H3 => ∃ i : Int, y = .int i ∧ Q (((kvs.lookup i).map V.int).getD z) H3
theorem RelO.getD' {o : Option V} {u : Option Value} {d : V} {r : Value} (h : RelO o u) (hd : RelV d r) : RelV (o.getD d) (u.getD r) := by
  cases o with
  | none => cases u with
    | none => exact hd
    | some _ => exact h.elim
  | some x => cases u with
    | none => exact h.elim
    | some _ => exact h
theorem pe_kgetI {X : Cx} {d : Addr} {kvs : List (Int × Int)} {o e f : Expr} {apos cpos : Pos} {ty tx : TE} (D : KDI X.K d kvs) (ho : PE X o (tC (.ref d))) (he : PE X e ty) (hf : PE X f tx) (m : M2 X o "get" apos e f cpos) :
    PE X (.Call (.Attribute o "get" apos) [e, f] [] cpos) (tKGet kvs ty tx) := by
  obtain ⟨es, n, hl, hp⟩ := D.ex
  refine ⟨fun pins s σ H Q I h => ?_⟩
  have h' : tC (.ref d) σ H (fun x H1 => x = .ref d ∧ tKGet kvs ty tx σ H1 Q) := ⟨rfl, h⟩
  have mapOf : ∀ {H1 : Hp} {s1 : Shared}, Inv X pins σ H1 s1 → s1.heap.MapOf (PySem.intKind X.prog X.w) d (fun k => findBy (PySem.intKind X.prog X.w).is es.toArray k) := fun {H1 s1} I1 =>
    ⟨_, es.toArray, n, I1.kIn d _ hl, ⟨rfl, rfl, rfl⟩, rfl, fun e' he' => entI_keys hp e' (by simpa using he'), fun _ => rfl⟩
  refine wpAny_Call_method m.base m.few m.line PySem.F.plainAttrs_dict PySem.F.slot_dict_get PySem.F.type_dict_get (thn (ho.run pins s σ H _ I h') fun u s1 ⟨x, H1, I1, rx, ex, q1⟩ => ?_)
  subst ex
  obtain rfl : u = Value.ref d := rx
  refine ⟨(mapOf I1).typeIs, fun b eb => ?_, ?_⟩
  · cases eb
    exact ⟨_, I1.kIn d _ hl, rfl⟩
  rw [m.trees]
  refine Calls.callWith_builtin rfl (Calls.evalArgs_plain (Calls.spliced_cons (thn (he.run pins s1 σ H1 _ I1 q1) fun iv s2 ⟨y, H2, I2, ry, q2⟩ =>
    Calls.spliced_cons (thn (hf.run pins s2 σ H2 _ I2 q2) fun fv s3 ⟨z, H3, I3, rz, i, ey, q3⟩ => Calls.spliced_nil ?_))))
  subst ey
  obtain ⟨t, rfl⟩ := ry
  refine call_meetsIn PySem.F.slot_dict_get (mapOf I3).typeIs PySem.F.entry_dict_get (PySem.F.args_dict_get_3 _ _ _) (meets_dict_get_default (PySem.intKind X.prog X.w) d (PySem.intKind_is X.prog X.w i t) D.low fv) ⟨_, mapOf I3, ?_⟩
  refine ⟨_, H3, I3.tok _, ?_, q3⟩
  have r := RelO.getD' (entI_find hp i) rz
  have e2 : findBy (PySem.intKind X.prog X.w).is es.toArray i = (es.find? fun e => Value.isInt i e.key).map (·.val) := by
    unfold findBy
    rw [List.find?_toArray]
    rfl
  rw [e2]
  exact r

/-! ### promises -/
def boundsL : List (Int × Int) := [(2, 60), (4, 60), (6, 200), (7, 200), (8, 200), (9, 200), (10, 100)]
def moreL : List (Int × Int) := [(11, 100), (12, 500000), (13, 100), (14, 200)]
def boundOf (d : Int) : Int := (boundsL.lookup d).getD ((moreL.lookup d).getD 1000000)
def firstL (p n : Nat) : List Int := match (List.range (n + 1)).find? fun k => Kp268.times p n k != 0 with
  | some k => [(k : Int), ((Kp268.times p n k : Nat) : Int)]
  | none => [-33]
def spListed : Sp := fun vs H Q _ => ∃ (a : Addr) (ns : List Int), vs = [.ref a] ∧ H a = some (.lst (ns.map V.int)) ∧ ns.length ≤ 10000 ∧ NewL H ((ns.length : Int) :: ns) Q
def spBound : Sp := fun vs H Q _ => ∃ d : Int, vs = [.int d] ∧ Q (.int (boundOf d)) H
def spChoose : Sp := fun vs H Q _ => ∃ n k : Nat, vs = [.int n, .int k] ∧ k ≤ n ∧ n ≤ 60 ∧ NewL H [((Kp268.choose n k / 1000000000 : Nat) : Int), ((Kp268.choose n k % 1000000000 : Nat) : Int)] Q
def spToldSp : Sp := fun vs H Q _ => ∃ p n : Nat, vs = [.int p, .int n] ∧ 2 ≤ p ∧ p < 100 ∧ n ≤ 1000000 ∧ NewL H [((Kp268.spared p n : Nat) : Int), ((n + 1 - Kp268.spared p n : Nat) : Int)] Q
def spFirst : Sp := fun vs H Q _ => ∃ p n : Nat, vs = [.int p, .int n] ∧ 2 ≤ p ∧ p < 100 ∧ n ≤ 1000 ∧ NewL H (firstL p n) Q

section
variable {P : Program} {w : World} {K : PySem.W.Frag} {mg : Str → Option Value} {base : Heap}

/-! ### listed -/
theorem scListed : FnScope ["some"] ["some"] (defScope sListed) := ⟨rfl, rfl, rfl, by decide +kernel, rfl, by decide +kernel, by decide +kernel⟩
theorem ok_listed {f : Addr} {fd : FuncData} {k : Nat} (F : Fun K "listed" "listed" sListed f fd) (ml : mg "len" = none) : FnOk P w K mg base CX0 (k + 1) f fd ["some"] spListed := by
  refine F.ok scListed (fun vs H Q E h => ?_) (fun cdv A outer s H vs Q E hr h => ?_)
  · obtain ⟨a, ns, rfl, _⟩ := h
    rfl
  · obtain ⟨a, ns, rfl, hS, hlen, q⟩ := h
    refine ⟨_, pss_one (ps_ret (pe_op op_cat (pe_lst (pa_cons (pe_callB call_len_seq (by rfl) ml PySem.boot_len (pa_cons (pv 0) pa_nil)) pa_nil)) (pv 0))), ?_⟩
    refine ⟨_, rfl, a, _, rfl, .inl (SqL.of hS), (by show 1 ≤ sizeLine; decide), fun l nl => ?_⟩
    have s1 := same_upd (o := HO.lst [V.int ((ns.map V.int).length : Nat)]) nl
    refine ⟨_, rfl, l, a, _, _, rfl, rfl, upd_same, s1 _ _ hS, ?_, fun c nc => ?_⟩
    · rw [List.length_map]
      show 1 + ns.length ≤ sizeLine
      exact Nat.le_trans (show 1 + ns.length ≤ 10001 by omega) (by decide)
    · refine q _ c (s1.trans (same_upd nc)) (s1.free nc) ?_
      rw [upd_same, List.length_map]
      rfl

/-! ### bound_of -/
theorem scBound : FnScope ["deed"] ["deed"] (defScope sBound) := ⟨rfl, rfl, rfl, by decide +kernel, rfl, by decide +kernel, by decide +kernel⟩
theorem ok_bound {f dB dM : Addr} {fd : FuncData} {k : Nat} {t : Tok} (F : Fun K "bound_of" "bound_of" sBound f fd) (gB : mg "BOUNDS" = some (.ref dB)) (gM : mg "MORE_BOUNDS" = some (.ref dM)) (gR : mg "MOST_ROW" = some (.int 1000000 t)) (DB : KDI K dB boundsL) (DM : KDI K dM moreL) :
    FnOk P w K mg base CX0 (k + 1) f fd ["deed"] spBound := by
  refine F.ok scBound (fun vs H Q E h => ?_) (fun cdv A outer s H vs Q E hr h => ?_)
  · obtain ⟨d, rfl, _⟩ := h
    rfl
  · obtain ⟨d, rfl, q⟩ := h
    refine ⟨_, pss_one (ps_ret (pe_kgetI DB (pe_glob (by rfl) gB rfl) (pv 0) (pe_kgetI DM (pe_glob (by rfl) gM rfl) (pv 0) (pe_glob (v := .int 1000000) (by rfl) gR ⟨_, rfl⟩) ⟨rfl, rfl, rfl, rfl⟩) ⟨rfl, rfl, rfl, rfl⟩)), ?_⟩
    refine ⟨_, rfl, _, rfl, d, rfl, d, rfl, ?_⟩
    unfold boundOf at q
    cases e1 : boundsL.lookup d with
    | some v =>
      rw [e1] at q
      exact q
    | none =>
      rw [e1] at q
      cases e2 : moreL.lookup d with
      | some v =>
        rw [e2] at q
        exact q
      | none =>
        rw [e2] at q
        exact q

/-! ### told_choose -/
theorem scChoose : FnScope ["row", "place", "found"] ["row", "place"] (defScope sChoose) := ⟨rfl, rfl, rfl, by decide +kernel, rfl, by decide +kernel, by decide +kernel⟩
theorem ok_choose {f fW : Addr} {fd fdW : FuncData} {k : Nat} {t : Tok} (F : Fun K "told_choose" "told_choose" sChoose f fd) (GW : FnOk P w K mg base CX0 k fW fdW ["many", "some"] spWays) (FW : Fun K "ways" "ways" sWays fW fdW) (bW : Binds K fdW ["many", "some"] []) (gW : mg "ways" = some (.ref fW)) (gT : mg "THOUSAND_MILLIONS" = some (.int 1000000000 t)) :
    FnOk P w K mg base CX0 (k + 1) f fd ["row", "place"] spChoose := by
  refine F.ok scChoose (fun vs H Q E h => ?_) (fun cdv A outer s H vs Q E hr h => ?_)
  · obtain ⟨n, k, rfl, _⟩ := h
    rfl
  · obtain ⟨n, k, rfl, hk, hn, q⟩ := h
    refine ⟨_, pss_cons (ps_set (i := 2) scChoose.nd rfl (Or.inl rfl) (pe_call GW hr (by rfl) gW FW.kp bW .nil pass0 (pa_cons (pv 0) (pa_cons (pv 1) pa_nil))))
      (pss_one (ps_ret (pe_lst (pa_cons (pe_op op_fdiv (pv 2) (pe_glob (v := .int 1000000000) (by rfl) gT ⟨_, rfl⟩)) (pa_cons (pe_op op_mod (pv 2) (pe_glob (v := .int 1000000000) (by rfl) gT ⟨_, rfl⟩)) pa_nil))))), ?_⟩
    refine ⟨_, rfl, _, rfl, n, k, rfl, hk, hn, ?_⟩
    refine ⟨_, rfl, _, _, rfl, rfl, ⟨by decide, by decide⟩, _, rfl, _, _, rfl, rfl, (by show (0 : Int) < 1000000000; decide), (by show 2 ≤ sizeLine; decide), fun c nc => ?_⟩
    refine q _ c (same_upd nc) nc ?_
    rw [upd_same, Int.natCast_ediv, Int.natCast_emod]
    rfl

/-! ### told_spared -/
theorem scToldSp : FnScope ["prime", "row", "many"] ["prime", "row"] (defScope sToldSp) := ⟨rfl, rfl, rfl, by decide +kernel, rfl, by decide +kernel, by decide +kernel⟩
theorem ok_toldSp {f fS : Addr} {fd fdS : FuncData} {k : Nat} (F : Fun K "told_spared" "told_spared" sToldSp f fd) (GS : FnOk P w K mg base CX0 k fS fdS ["prime", "row"] spSpared) (FS : Fun K "spared" "spared" sSpared fS fdS) (bS : Binds K fdS ["prime", "row"] []) (gS : mg "spared" = some (.ref fS)) :
    FnOk P w K mg base CX0 (k + 1) f fd ["prime", "row"] spToldSp := by
  refine F.ok scToldSp (fun vs H Q E h => ?_) (fun cdv A outer s H vs Q E hr h => ?_)
  · obtain ⟨p, n, rfl, _⟩ := h
    rfl
  · obtain ⟨p, n, rfl, hp, hp2, hn, q⟩ := h
    refine ⟨_, pss_cons (ps_set (i := 2) scToldSp.nd rfl (Or.inl rfl) (pe_call GS hr (by rfl) gS FS.kp bS .nil pass0 (pa_cons (pv 0) (pa_cons (pv 1) pa_nil))))
      (pss_one (ps_ret (pe_lst (pa_cons (pv 2) (pa_cons (pe_op op_sub (pe_op op_add (pv 1) pe_int) (pv 2)) pa_nil))))), ?_⟩
    refine ⟨_, rfl, _, rfl, p, n, rfl, hp, hp2, hn, ?_⟩
    refine ⟨_, rfl, _, rfl, _, _, rfl, rfl, _, rfl, _, _, rfl, rfl, (by show 2 ≤ sizeLine; decide), fun c nc => ?_⟩
    refine q _ c (same_upd nc) nc ?_
    rw [upd_same, Int.natCast_sub (spared_le p n hp hn), Int.natCast_add]
    rfl

/-! ### told_first -/
theorem scFirst : FnScope ["prime", "row", "place", "often"] ["prime", "row"] (defScope sFirst) := ⟨rfl, rfl, rfl, by decide +kernel, rfl, by decide +kernel, by decide +kernel⟩
theorem ok_first {f fR : Addr} {fd fdR : FuncData} {k : Nat} {t : Tok} (F : Fun K "told_first" "told_first" sFirst f fd) (GR : FnOk P w K mg base CX0 k fR fdR ["prime", "row"] spRowT) (FR : Fun K "row_times" "row_times" sRowT fR fdR) (bR : Binds K fdR ["prime", "row"] []) (gR : mg "row_times" = some (.ref fR))
    (gN : mg "NEVER" = some (.int (-33) t)) (me : mg "enumerate" = none) : FnOk P w K mg base CX0 (k + 1) f fd ["prime", "row"] spFirst := by
  refine F.ok scFirst (fun vs H Q E h => ?_) (fun cdv A outer s H vs Q E hr h => ?_)
  · obtain ⟨p, n, rfl, _⟩ := h
    rfl
  · obtain ⟨p, n, rfl, hp, hp2, hn, q⟩ := h
    refine ⟨_, pss_cons (ps_for PassesOwn.never rfl (pi_enum (by rfl) me (pa_cons (pe_call GR hr (by rfl) gR FR.kp bR .nil pass0 (pa_cons (pv 0) (pa_cons (pv 1) pa_nil))) pa_nil))
        (pg_tup rfl (pgs_cons (pg_name (i := 2) scFirst.nd rfl (Or.inl rfl)) (pgs_cons (pg_name (i := 3) scFirst.nd rfl (Or.inl rfl)) pgs_nil)))
        (pss_one (ps_if (pt_cmpR op_gt (pv 3) pe_int (nomark _)) (pss_one (ps_ret (pe_lst (pa_cons (pv 2) (pa_cons (pv 3) pa_nil))))) pss_nil)))
      (pss_one (ps_ret (pe_lst (pa_cons (pe_glob (v := .int (-33)) (by rfl) gN ⟨_, rfl⟩) pa_nil)))), ?_⟩
    refine ⟨_, rfl, _, rfl, p, n, rfl, hp, hp2, hn, fun H1 r sm nr hr1 => ?_⟩
    refine ⟨r, _, rfl, SqL.of hr1, for_it (walk_enum (K := K) (a := r) (xs := (rowL p n).map V.int)) (fun i σ H' => ∃ v2 v3, σ = [some (.int p), some (.int n), v2, v3] ∧ Same H1 H' ∧ ∀ j, j < i → Kp268.times p n j = 0) ⟨none, none, rfl, Same.refl _, fun j hj => by omega⟩ ?_ ?_ ?_⟩
    · rintro i σ H' hi ⟨v2, v3, _, s5, _⟩
      exact SqL.of (s5 _ _ hr1)
    · rintro i x σ H' H'' hi ⟨v2, v3, rfl, s5, h5⟩ hy
      rw [List.length_map, rowL_len] at hi
      obtain ⟨T, x1, x2, rfl, nT, rfl, f1, f2⟩ := hy
      have ex1 : x1 = .int (i : Nat) := (Option.some.inj f1).symm
      have ex2 : x2 = .int (Kp268.times p n i : Nat) := by
        have f3 : ((rowL p n).map V.int)[i]? = some x2 := f2
        unfold rowL at f3
        rw [List.getElem?_map, List.getElem?_map, List.getElem?_range hi] at f3
        exact (Option.some.inj f3).symm
      subst ex1 ex2
      refine ⟨T, _, rfl, SqT.of upd_same, rfl, _, _, rfl, _, _, rfl, rfl, ?_⟩
      refine ⟨_, rfl, _, _, rfl, rfl, _, rfl, ite2 (fun e => ?_) (fun e => ?_)⟩
      · have e1 : (0 : Int) < ((Kp268.times p n i : Nat) : Int) := of_decide_eq_true e
        refine ⟨_, rfl, _, rfl, (by show 2 ≤ sizeLine; decide), fun c nc => ?_⟩
        have s6 : Same H' (upd H' T (.tup [.int (i : Nat), .int (Kp268.times p n i : Nat)])) := same_upd nT
        refine q _ c (((sm.trans s5).trans s6).trans (same_upd nc)) (((sm.trans s5).trans s6).free nc) ?_
        have ef : (List.range (n + 1)).find? (fun k => Kp268.times p n k != 0) = some i := by
          rw [List.find?_range_eq_some]
          refine ⟨?_, List.mem_range.mpr hi, fun j hj => ?_⟩
          · rw [bne_iff_ne]
            omega
          · rw [h5 j hj]
            rfl
        unfold firstL
        rw [upd_same, ef]
        rfl
      · have e1 : ¬ (0 : Int) < ((Kp268.times p n i : Nat) : Int) := fun z => e (decide_eq_true z)
        refine ⟨_, _, rfl, s5.trans (same_upd nT), fun j hj => ?_⟩
        by_cases hji : j < i
        · exact h5 j hji
        · have : j = i := by omega
          subst this
          omega
    · rintro σ H' ⟨v2, v3, rfl, s5, h5⟩
      rw [List.length_map, rowL_len] at h5
      refine ⟨(by show 1 ≤ sizeLine; decide), fun c nc => ?_⟩
      refine q _ c ((sm.trans s5).trans (same_upd nc)) ((sm.trans s5).free nc) ?_
      have ef : (List.range (n + 1)).find? (fun k => Kp268.times p n k != 0) = none := by
        rw [List.find?_range_eq_none]
        intro j hj
        rw [h5 j hj]
        rfl
      unfold firstL
      rw [upd_same, ef]
      rfl
end
end Pc

/-! of_rows and of_row. -/
namespace Pc
open PySem PySem.Spec PyProof.Rows L2
open PySem.W (Codec)

/-! ### plain laws -/
def castL (l : List Nat) : List Int := l.map fun (x : Nat) => (x : Int)
def wholeL (p m : Nat) : List Int := castL ((List.range m).filter fun m => decide (2 ≤ m) && Kp268.whole p m)
def bareL (p m : Nat) : List Int := castL ((List.range m).filter (Kp268.none_ p))
def sparedL (p m : Nat) : List Int := (List.range m).map fun k => ((Kp268.spared p k : Nat) : Int)
def belowN (p n : Nat) : Nat := (List.range (n + 1)).foldl (fun (a m : Nat) => a + Kp268.spared p m) 0

theorem castL_len (l : List Nat) : (castL l).length = l.length := by
  unfold castL
  rw [List.length_map]
theorem filterL_len (f : Nat → Bool) (m : Nat) : (castL ((List.range m).filter f)).length ≤ m := by
  rw [castL_len]
  exact Nat.le_trans (List.length_filter_le _ _) (Nat.le_of_eq List.length_range)
theorem filterL_succ (f : Nat → Bool) (m : Nat) : castL ((List.range (m + 1)).filter f) = castL ((List.range m).filter f) ++ (if f m = true then [(m : Int)] else []) := by
  unfold castL
  rw [List.range_succ, List.filter_append, List.map_append]
  congr 1
  by_cases h : f m = true
  · rw [if_pos h, List.filter_cons_of_pos h]
    rfl
  · rw [if_neg h, List.filter_cons_of_neg h]
    rfl
theorem wholeL_start (p : Nat) : wholeL p 2 = [] := rfl
theorem wholeL_end (p n : Nat) : wholeL p (2 + ((n : Int) + 1 - 2).toNat) = wholeL p (n + 1) := by
  cases n with
  | zero => rfl
  | succ n =>
    have e : 2 + (((n + 1 : Nat) : Int) + 1 - 2).toNat = n + 1 + 1 := by omega
    rw [e]
theorem sparedL_succ (p m : Nat) : sparedL p (m + 1) = sparedL p m ++ [((Kp268.spared p m : Nat) : Int)] := by
  unfold sparedL
  rw [List.range_succ, List.map_append]
  rfl
theorem sparedL_len (p m : Nat) : (sparedL p m).length = m := by
  unfold sparedL
  rw [List.length_map, List.length_range]
theorem sum_fold (f : Nat → Nat) : ∀ (m : Nat), ((List.range m).map fun k => ((f k : Nat) : Int)).sum = (((List.range m).foldl (fun (a k : Nat) => a + f k) 0 : Nat) : Int)
  | 0 => rfl
  | m + 1 => by
    rw [List.range_succ, List.map_append, List.sum_append, sum_fold f m, List.foldl_append]
    show _ + (((f m : Nat) : Int) + 0) = ((_ + f m : Nat) : Int)
    rw [Int.natCast_add, Int.add_zero]
theorem sparedL_sum (p n : Nat) : (sparedL p (n + 1)).sum = ((belowN p n : Nat) : Int) := sum_fold (Kp268.spared p) (n + 1)

theorem fold_max_ge (f : Nat → Nat) : ∀ (l : List Nat) (a : Nat), a ≤ l.foldl (fun (m k : Nat) => max m (f k)) a ∧ ∀ k ∈ l, f k ≤ l.foldl (fun (m k : Nat) => max m (f k)) a
  | [], a => ⟨Nat.le_refl _, fun k hk => by cases hk⟩
  | x :: l, a => by
    obtain ⟨h1, h2⟩ := fold_max_ge f l (max a (f x))
    refine ⟨Nat.le_trans (Nat.le_max_left _ _) h1, fun k hk => ?_⟩
    rcases List.mem_cons.mp hk with rfl | hk
    · exact Nat.le_trans (Nat.le_max_right _ _) h1
    · exact h2 k hk
theorem fold_max_in (f : Nat → Nat) : ∀ (l : List Nat) (a : Nat), l.foldl (fun (m k : Nat) => max m (f k)) a = a ∨ ∃ k ∈ l, l.foldl (fun (m k : Nat) => max m (f k)) a = f k
  | [], a => .inl rfl
  | x :: l, a => by
    rcases fold_max_in f l (max a (f x)) with h | ⟨k, hk, h⟩
    · rw [List.foldl_cons, h]
      by_cases c : a ≤ f x
      · exact .inr ⟨x, List.mem_cons_self, Nat.max_eq_right c⟩
      · exact .inl (Nat.max_eq_left (by omega))
    · exact .inr ⟨k, List.mem_cons_of_mem _ hk, h⟩
theorem most_of (p n : Nat) (m : Int) (hm : m ∈ rowL p n) (hle : ∀ y, y ∈ rowL p n → y ≤ m) : m = ((Kp268.most p n : Nat) : Int) := by
  have a1 := (fold_max_ge (Kp268.times p n) (List.range (n + 1)) 0).2
  have a2 := fold_max_in (Kp268.times p n) (List.range (n + 1)) 0
  have e : (List.range (n + 1)).foldl (fun (m k : Nat) => max m (Kp268.times p n k)) 0 = Kp268.most p n := rfl
  rw [e] at a1 a2
  obtain ⟨k, hk, rfl⟩ := List.mem_map.mp hm
  have b1 := a1 k hk
  rcases a2 with z | ⟨j, hj, z⟩
  · omega
  · have b2 := hle ((Kp268.times p n j : Nat) : Int) (List.mem_map.mpr ⟨j, hj, rfl⟩)
    omega
theorem count_of (p n c : Nat) : (rowL p n).count (c : Int) = ((List.range (n + 1)).filter fun k => Kp268.times p n k == c).length := by
  unfold rowL
  rw [List.count_eq_countP, List.countP_map, List.countP_eq_length_filter]
  congr 2
  funext k
  show (((Kp268.times p n k : Nat) : Int) == (c : Int)) = (Kp268.times p n k == c)
  rw [Bool.eq_iff_iff, beq_iff_eq, beq_iff_eq]
  omega

def ofRowsL (p : Nat) (d : Int) (n : Nat) : List Int :=
  if d = 10 then ((wholeL p (n + 1)).length : Int) :: wholeL p (n + 1)
  else if d = 11 then ((bareL p (n + 1)).length : Int) :: bareL p (n + 1)
  else [((belowN p n : Nat) : Int)]
def ofRowL (p : Nat) (d : Int) (n c : Nat) : List Int :=
  if d = 4 then ((rowL p n).length : Int) :: rowL p n
  else if d = 5 then [((Kp268.spared p n : Nat) : Int), ((n + 1 - Kp268.spared p n : Nat) : Int)]
  else if d = 6 then [if Kp268.whole p n = true then 1 else 0]
  else if d = 7 then [if Kp268.none_ p n = true then 1 else 0]
  else if d = 8 then [((Kp268.most p n : Nat) : Int)]
  else if d = 9 then firstL p n
  else if d = 12 then [(((Kp266.places p n n).length : Nat) : Int)]
  else if d = 14 then [((((List.range (n + 1)).filter fun k => Kp268.times p n k == c).length : Nat) : Int)]
  else ofRowsL p d n
def spOfRows : Sp := fun vs H Q _ => ∃ (p n : Nat) (d : Int), vs = [.int p, .int d, .int n] ∧ 2 ≤ p ∧ p < 100 ∧ n ≤ 200 ∧ NewL H (ofRowsL p d n) Q
def spOfRow (K : PySem.W.Frag) : Sp := fun vs H Q _ => ∃ (p n c : Nat) (d : Int) (a : Addr) (ns : List Int), vs = [.int p, .int d, .ref a] ∧ 2 ≤ p ∧ p < 100 ∧ H a = some (.lst (ns.map V.int)) ∧ ns[0]? = some (n : Int) ∧ (d = 14 → ns[1]? = some (c : Int)) ∧
  n ≤ 1000000 ∧ (d ≠ 5 → d ≠ 12 → n ≤ 200) ∧ NewL H (ofRowL p d n c) Q

section
variable {P : Program} {w : World} {K : PySem.W.Frag} {mg : Str → Option Value} {base : Heap}

/-! ### of_rows -/
theorem scOfRows : FnScope ["prime", "deed", "last", "row"] ["prime", "deed", "last"] (defScope sOfRows) := ⟨rfl, rfl, rfl, by decide +kernel, rfl, by decide +kernel, by decide +kernel⟩
theorem ok_ofRows {f fL fW fB fS : Addr} {fd fdL fdW fdB fdS : FuncData} {k : Nat} (F : Fun K "of_rows" "of_rows" sOfRows f fd)
    (GL : FnOk P w K mg base CX0 k fL fdL ["some"] spListed) (FL : Fun K "listed" "listed" sListed fL fdL) (bL : Binds K fdL ["some"] []) (gL : mg "listed" = some (.ref fL))
    (GW : FnOk P w K mg base CX0 k fW fdW ["prime", "row"] spWhole) (FW : Fun K "is_whole" "is_whole" sWhole fW fdW) (bW : Binds K fdW ["prime", "row"] []) (gW : mg "is_whole" = some (.ref fW))
    (GB : FnOk P w K mg base CX0 k fB fdB ["prime", "row"] spBare) (FB : Fun K "is_bare" "is_bare" sBare fB fdB) (bB : Binds K fdB ["prime", "row"] []) (gB : mg "is_bare" = some (.ref fB))
    (GS : FnOk P w K mg base CX0 k fS fdS ["prime", "row"] spSpared) (FS : Fun K "spared" "spared" sSpared fS fdS) (bS : Binds K fdS ["prime", "row"] []) (gS : mg "spared" = some (.ref fS))
    (mr : mg "range" = none) (ms : mg "sum" = none) : FnOk P w K mg base CX0 (k + 1) f fd ["prime", "deed", "last"] spOfRows := by
  refine F.ok scOfRows (fun vs H Q E h => ?_) (fun cdv A outer s H vs Q E hr h => ?_)
  · obtain ⟨p, n, d, rfl, _⟩ := h
    rfl
  · obtain ⟨p, n, d, rfl, hp, hp2, hn, q⟩ := h
    refine ⟨_, pss_cons (ps_if (pt_cmpR op_eq (pv 1) pe_int (nomark _)) (pss_one (ps_ret (pe_call GL hr (by rfl) gL FL.kp bL .nil pass0 (pa_cons
          (pe_lc (own := [("row", 3)]) (g := gName 3) (by rfl) scOfRows.nd (pi_range2 (by rfl) mr (pa_cons pe_int (pa_cons (pe_op op_add (pv 2) pe_int) pa_nil))) (blkOk_by (own := [("row", 3)]) (N := ["prime", "deed", "last", "row"]) (sc := defScope sOfRows) (by decide +kernel))
            (fun _ _ _ _ _ => pg_name (i := 3) scOfRows.nd rfl (Or.inl rfl)) (fun _ _ _ _ _ => pts_one (pt_val (pe_call GW hr (by rfl) gW FW.kp bW .nil pass0 (pa_cons (pv 0) (pa_cons (pv 3) pa_nil))))) (fun _ _ _ _ _ => pv 3)) pa_nil)))) pss_nil)
      (pss_cons (ps_if (pt_cmpR op_eq (pv 1) pe_int (nomark _)) (pss_one (ps_ret (pe_call GL hr (by rfl) gL FL.kp bL .nil pass0 (pa_cons
          (pe_lc (own := [("row", 3)]) (g := gName 3) (by rfl) scOfRows.nd (pi_range1 (by rfl) mr (pa_cons (pe_op op_add (pv 2) pe_int) pa_nil)) (blkOk_by (own := [("row", 3)]) (N := ["prime", "deed", "last", "row"]) (sc := defScope sOfRows) (by decide +kernel))
            (fun _ _ _ _ _ => pg_name (i := 3) scOfRows.nd rfl (Or.inl rfl)) (fun _ _ _ _ _ => pts_one (pt_val (pe_call GB hr (by rfl) gB FB.kp bB .nil pass0 (pa_cons (pv 0) (pa_cons (pv 3) pa_nil))))) (fun _ _ _ _ _ => pv 3)) pa_nil)))) pss_nil)
      (pss_one (ps_ret (pe_lst (pa_cons (pe_callB (cr_sum rfl) (by rfl) ms (by decide +kernel) (pa_cons
          (pe_lc (own := [("row", 3)]) (g := gName 3) (tt := tYes) (by rfl) scOfRows.nd (pi_range1 (by rfl) mr (pa_cons (pe_op op_add (pv 2) pe_int) pa_nil)) (blkOk_by (own := [("row", 3)]) (N := ["prime", "deed", "last", "row"]) (sc := defScope sOfRows) (by decide +kernel))
            (fun _ _ _ _ _ => pg_name (i := 3) scOfRows.nd rfl (Or.inl rfl)) (fun _ _ _ _ _ => pts_nil) (fun _ _ _ _ _ => pe_call GS hr (by rfl) gS FS.kp bS .nil pass0 (pa_cons (pv 0) (pa_cons (pv 3) pa_nil)))) pa_nil)) pa_nil))))), ?_⟩
    unfold ofRowsL at q
    refine ⟨_, rfl, rfl, _, rfl, ite2 (fun e => ?_) (fun e => ?_)⟩
    · have ed : d = 10 := V.int.inj (of_decide_eq_true e)
      rw [if_pos ed] at q
      refine ⟨_, rfl, _, _, rfl, rfl, 2, _, rfl, ⟨by decide, by decide, by omega, by omega⟩, fun D nD => ?_⟩
      refine lc_range (lo := 2) (n := ((n : Int) + 1 - 2).toNat) (fun i H' => Same H H' ∧ H' D = some (.lst ((wholeL p (2 + i)).map V.int))) ⟨same_upd nD, upd_same⟩ ?_ ?_
      · rintro i H' hi ⟨sm, hD⟩
        refine ⟨rfl, ?_⟩
        refine ⟨_, rfl, _, rfl, p, 2 + i, ?_, hp, hp2, by omega, fun H2 sm2 => ⟨_, rfl, ite2 (fun e1 => ?_) (fun e1 => ?_)⟩⟩
        · rw [Int.natCast_add]
          rfl
        · refine ⟨_, rfl, _, sm2 _ _ hD, ?_, ?_, ?_⟩
          · rw [List.length_map]
            exact Nat.lt_of_le_of_lt (filterL_len _ _) (Nat.lt_of_lt_of_le (show 2 + i < 1001 by omega) (by decide))
          · intro b o e
            rw [upd_ne (ne_of_none e nD)]
            exact sm2 b o (sm b o e)
          · rw [upd_same]
            unfold wholeL
            rw [← Nat.add_assoc, filterL_succ, if_pos (by rw [Bool.and_eq_true]; exact ⟨decide_eq_true (by omega), e1⟩), List.map_append, Int.natCast_add]
            rfl
        · refine ⟨sm.trans sm2, ?_⟩
          rw [sm2 _ _ hD]
          unfold wholeL
          rw [← Nat.add_assoc, filterL_succ, if_neg (by rw [Bool.and_eq_true]; exact fun z => e1 z.2), List.append_nil]
      · rintro H' ⟨sm, hD⟩
        rw [wholeL_end] at hD
        refine ⟨D, _, rfl, hD, Nat.le_trans (filterL_len _ _) (by omega), fun H2 c sm2 nc hc => q H2 c (sm.trans sm2) (sm.free nc) hc⟩
    · have ed : ¬ d = 10 := fun z => e (decide_eq_true (congrArg V.int z))
      rw [if_neg ed] at q
      refine ⟨_, rfl, rfl, _, rfl, ite2 (fun e' => ?_) (fun e' => ?_)⟩
      · have ed' : d = 11 := V.int.inj (of_decide_eq_true e')
        rw [if_pos ed'] at q
        refine ⟨_, rfl, _, _, rfl, rfl, _, rfl, by omega, by omega, fun D nD => ?_⟩
        refine lc_range (lo := 0) (n := ((n : Int) + 1).toNat) (fun i H' => Same H H' ∧ H' D = some (.lst ((bareL p i).map V.int))) ⟨same_upd nD, upd_same⟩ ?_ ?_
        · rintro i H' hi ⟨sm, hD⟩
          refine ⟨rfl, ?_⟩
          refine ⟨_, rfl, _, rfl, p, i, ?_, hp, hp2, by omega, ⟨_, rfl, ite2 (fun e1 => ?_) (fun e1 => ?_)⟩⟩
          · rw [Int.zero_add]
            rfl
          · refine ⟨_, rfl, _, hD, ?_, ?_, ?_⟩
            · rw [List.length_map]
              exact Nat.lt_of_le_of_lt (filterL_len _ _) (Nat.lt_of_lt_of_le (show i < 1001 by omega) (by decide))
            · intro b o e
              rw [upd_ne (ne_of_none e nD)]
              exact sm b o e
            · rw [upd_same, Int.zero_add]
              unfold bareL
              rw [filterL_succ, if_pos e1, List.map_append]
              rfl
          · refine ⟨sm, ?_⟩
            rw [hD]
            unfold bareL
            rw [filterL_succ, if_neg e1, List.append_nil]
        · rintro H' ⟨sm, hD⟩
          have en : ((n : Int) + 1).toNat = n + 1 := by omega
          rw [en] at hD
          refine ⟨D, _, rfl, hD, Nat.le_trans (filterL_len _ _) (by omega), fun H2 c sm2 nc hc => q H2 c (sm.trans sm2) (sm.free nc) hc⟩
      · have ed' : ¬ d = 11 := fun z => e' (decide_eq_true (congrArg V.int z))
        rw [if_neg ed'] at q
        refine ⟨_, rfl, _, _, rfl, rfl, _, rfl, by omega, by omega, fun D nD => ?_⟩
        refine lc_range (lo := 0) (n := ((n : Int) + 1).toNat) (fun i H' => Same H H' ∧ H' D = some (.lst ((sparedL p i).map V.int))) ⟨same_upd nD, upd_same⟩ ?_ ?_
        · rintro i H' hi ⟨sm, hD⟩
          refine ⟨rfl, ?_⟩
          unfold tYes
          dsimp only
          rw [if_pos rfl]
          refine ⟨_, rfl, _, rfl, p, i, ?_, hp, hp2, by omega, ?_⟩
          · rw [Int.zero_add]
            rfl
          · refine ⟨_, hD, ?_, ?_, ?_⟩
            · rw [List.length_map, sparedL_len]
              exact Nat.lt_of_lt_of_le (show i < 1001 by omega) (by decide)
            · intro b o e
              rw [upd_ne (ne_of_none e nD)]
              exact sm b o e
            · rw [upd_same, sparedL_succ, List.map_append]
              rfl
        · rintro H' ⟨sm, hD⟩
          have en : ((n : Int) + 1).toNat = n + 1 := by omega
          rw [en] at hD
          refine ⟨D, sparedL p (n + 1), rfl, SqL.of hD, (by show 1 ≤ sizeLine; decide), fun c nc => ?_⟩
          refine q _ c (sm.trans (same_upd nc)) (sm.free nc) ?_
          rw [upd_same, sparedL_sum]
          rfl

/-! ### of_row -/
theorem at0 {ns : List Int} {n : Nat} (h : ns[0]? = some (n : Int)) : atI (ns.map V.int) 0 = some (V.int (n : Int)) := by
  have e : (ns.map V.int)[0]? = some (V.int (n : Int)) := by
    rw [List.getElem?_map, h]
    rfl
  exact atI_nat (j := 0) e
theorem at1 {ns : List Int} {n : Nat} (h : ns[1]? = some (n : Int)) : atI (ns.map V.int) 1 = some (V.int (n : Int)) := by
  have e : (ns.map V.int)[1]? = some (V.int (n : Int)) := by
    rw [List.getElem?_map, h]
    rfl
  exact atI_nat (j := 1) e
theorem newl_one {H H1 : Hp} {Q : VK} {x : Int} {ns : List Int} (q : NewL H ns Q) (sm : Same H H1) (e : ns = [x]) (c : Addr) (nc : H1 c = none) : Q (.ref c) (upd H1 c (.lst [V.int x])) := by
  subst e
  exact q _ c (sm.trans (same_upd nc)) (sm.free nc) upd_same
theorem scOfRow : FnScope ["prime", "deed", "numbers", "row"] ["prime", "deed", "numbers"] (defScope sOfRow) := ⟨rfl, rfl, rfl, by decide +kernel, rfl, by decide +kernel, by decide +kernel⟩
theorem ok_ofRow {f fL fR fT fW fB fI fC fO : Addr} {fd fdL fdR fdT fdW fdB fdI fdC fdO : FuncData} {k : Nat} (F : Fun K "of_row" "of_row" sOfRow f fd)
    (GL : FnOk P w K mg base CX0 k fL fdL ["some"] spListed) (FL : Fun K "listed" "listed" sListed fL fdL) (bL : Binds K fdL ["some"] []) (gL : mg "listed" = some (.ref fL))
    (GR : FnOk P w K mg base CX0 k fR fdR ["prime", "row"] spRowT) (FR : Fun K "row_times" "row_times" sRowT fR fdR) (bR : Binds K fdR ["prime", "row"] []) (gR : mg "row_times" = some (.ref fR))
    (GT : FnOk P w K mg base CX0 k fT fdT ["prime", "row"] spToldSp) (FT : Fun K "told_spared" "told_spared" sToldSp fT fdT) (bT : Binds K fdT ["prime", "row"] []) (gT : mg "told_spared" = some (.ref fT))
    (GW : FnOk P w K mg base CX0 k fW fdW ["prime", "row"] spWhole) (FW : Fun K "is_whole" "is_whole" sWhole fW fdW) (bW : Binds K fdW ["prime", "row"] []) (gW : mg "is_whole" = some (.ref fW))
    (GB : FnOk P w K mg base CX0 k fB fdB ["prime", "row"] spBare) (FB : Fun K "is_bare" "is_bare" sBare fB fdB) (bB : Binds K fdB ["prime", "row"] []) (gB : mg "is_bare" = some (.ref fB))
    (GI : FnOk P w K mg base CX0 k fI fdI ["prime", "row"] spFirst) (FI : Fun K "told_first" "told_first" sFirst fI fdI) (bI : Binds K fdI ["prime", "row"] []) (gI : mg "told_first" = some (.ref fI))
    (GC : FnOk P w K mg base CX0 k fC fdC ["prime", "one", "other"] spCarried) (FC : Fun K "carried" "carried" sCarried fC fdC) (bC : Binds K fdC ["prime", "one", "other"] []) (gC : mg "carried" = some (.ref fC))
    (GO : FnOk P w K mg base CX0 k fO fdO ["prime", "deed", "last"] spOfRows) (FO : Fun K "of_rows" "of_rows" sOfRows fO fdO) (bO : Binds K fdO ["prime", "deed", "last"] []) (gO : mg "of_rows" = some (.ref fO))
    (mi : mg "int" = none) (mm : mg "max" = none) : FnOk P w K mg base CX0 (k + 1) f fd ["prime", "deed", "numbers"] (spOfRow K) := by
  refine F.ok scOfRow (fun vs H Q E h => ?_) (fun cdv A outer s H vs Q E hr h => ?_)
  · obtain ⟨p, n, c, d, a, ns, rfl, _⟩ := h
    rfl
  · obtain ⟨p, n, c, d, a, ns, rfl, hp, hp2, hS, h0, h1, hn, hn2, q⟩ := h
    refine ⟨_, pss_cons (ps_set (i := 3) scOfRow.nd rfl (Or.inl rfl) (pe_ix ix_list (pv 2) pe_int (fun _ _ => rfl)))
      (pss_cons (ps_if (pt_cmpR op_eq (pv 1) pe_int (nomark _)) (pss_one (ps_ret (pe_call GL hr (by rfl) gL FL.kp bL .nil pass0 (pa_cons (pe_call GR hr (by rfl) gR FR.kp bR .nil pass0 (pa_cons (pv 0) (pa_cons (pv 3) pa_nil))) pa_nil)))) pss_nil)
      (pss_cons (ps_if (pt_cmpR op_eq (pv 1) pe_int (nomark _)) (pss_one (ps_ret (pe_call GT hr (by rfl) gT FT.kp bT .nil pass0 (pa_cons (pv 0) (pa_cons (pv 3) pa_nil))))) pss_nil)
      (pss_cons (ps_if (pt_cmpR op_eq (pv 1) pe_int (nomark _)) (pss_one (ps_ret (pe_lst (pa_cons (pe_callTy call_int1 (by rfl) mi (by decide +kernel) (pa_cons (pe_call GW hr (by rfl) gW FW.kp bW .nil pass0 (pa_cons (pv 0) (pa_cons (pv 3) pa_nil))) pa_nil)) pa_nil)))) pss_nil)
      (pss_cons (ps_if (pt_cmpR op_eq (pv 1) pe_int (nomark _)) (pss_one (ps_ret (pe_lst (pa_cons (pe_callTy call_int1 (by rfl) mi (by decide +kernel) (pa_cons (pe_call GB hr (by rfl) gB FB.kp bB .nil pass0 (pa_cons (pv 0) (pa_cons (pv 3) pa_nil))) pa_nil)) pa_nil)))) pss_nil)
      (pss_cons (ps_if (pt_cmpR op_eq (pv 1) pe_int (nomark _)) (pss_one (ps_ret (pe_lst (pa_cons (pe_callB (cr_max rfl) (by rfl) mm (by decide +kernel) (pa_cons (pe_call GR hr (by rfl) gR FR.kp bR .nil pass0 (pa_cons (pv 0) (pa_cons (pv 3) pa_nil))) pa_nil)) pa_nil)))) pss_nil)
      (pss_cons (ps_if (pt_cmpR op_eq (pv 1) pe_int (nomark _)) (pss_one (ps_ret (pe_call GI hr (by rfl) gI FI.kp bI .nil pass0 (pa_cons (pv 0) (pa_cons (pv 3) pa_nil))))) pss_nil)
      (pss_cons (ps_if (pt_cmpR op_eq (pv 1) pe_int (nomark _)) (pss_one (ps_ret (pe_lst (pa_cons (pe_call GC hr (by rfl) gC FC.kp bC .nil pass0 (pa_cons (pv 0) (pa_cons (pv 3) (pa_cons (pv 3) pa_nil)))) pa_nil)))) pss_nil)
      (pss_cons (ps_if (pt_cmpR op_eq (pv 1) pe_int (nomark _)) (pss_one (ps_ret (pe_lst (pa_cons (pe_bm PySem.F.plainAttrs_list PySem.F.slot_list_count PySem.F.type_list_count mt_lcount (pe_call GR hr (by rfl) gR FR.kp bR .nil pass0 (pa_cons (pv 0) (pa_cons (pv 3) pa_nil))) (pa_cons (pe_ix ix_list (pv 2) pe_int (fun _ _ => rfl)) pa_nil)) pa_nil)))) pss_nil)
      (pss_one (ps_ret (pe_call GO hr (by rfl) gO FO.kp bO .nil pass0 (pa_cons (pv 0) (pa_cons (pv 1) (pa_cons (pv 3) pa_nil)))))))))))))), ?_⟩
    unfold ofRowL at q
    refine ⟨_, rfl, a, _, _, _, rfl, rfl, SqL.of hS, at0 h0, ?_⟩
    -- deed == 4
    refine ⟨_, rfl, rfl, _, rfl, ite2 (fun e => ?_) (fun e => ?_)⟩
    · have ed : d = 4 := V.int.inj (of_decide_eq_true e)
      rw [if_pos ed] at q
      refine ⟨_, rfl, _, rfl, p, n, rfl, hp, hp2, by omega, fun H1 r sm nr hr1 => ?_⟩
      refine ⟨r, _, rfl, hr1, by rw [rowL_len]; omega, fun H2 c sm2 nc hc => q H2 c (sm.trans sm2) (sm.free nc) hc⟩
    have ed : ¬ d = 4 := fun z => e (decide_eq_true (congrArg V.int z))
    rw [if_neg ed] at q
    clear e
    -- deed == 5
    refine ⟨_, rfl, rfl, _, rfl, ite2 (fun e => ?_) (fun e => ?_)⟩
    · have ed : d = 5 := V.int.inj (of_decide_eq_true e)
      rw [if_pos ed] at q
      exact ⟨_, rfl, _, rfl, p, n, rfl, hp, hp2, hn, q⟩
    have ed5 : ¬ d = 5 := fun z => e (decide_eq_true (congrArg V.int z))
    rw [if_neg ed5] at q
    clear e
    -- deed == 6
    refine ⟨_, rfl, rfl, _, rfl, ite2 (fun e => ?_) (fun e => ?_)⟩
    · have ed : d = 6 := V.int.inj (of_decide_eq_true e)
      rw [if_pos ed] at q
      refine ⟨_, rfl, _, rfl, p, n, rfl, hp, hp2, by omega, fun H1 sm => .inr ⟨_, rfl, (by show 1 ≤ sizeLine; decide), fun c nc => ?_⟩⟩
      exact newl_one q sm rfl c nc
    have ed6 : ¬ d = 6 := fun z => e (decide_eq_true (congrArg V.int z))
    rw [if_neg ed6] at q
    clear e
    -- deed == 7
    refine ⟨_, rfl, rfl, _, rfl, ite2 (fun e => ?_) (fun e => ?_)⟩
    · have ed : d = 7 := V.int.inj (of_decide_eq_true e)
      rw [if_pos ed] at q
      refine ⟨_, rfl, _, rfl, p, n, rfl, hp, hp2, hn, .inr ⟨_, rfl, (by show 1 ≤ sizeLine; decide), fun c nc => ?_⟩⟩
      exact newl_one q (Same.refl _) rfl c nc
    have ed7 : ¬ d = 7 := fun z => e (decide_eq_true (congrArg V.int z))
    rw [if_neg ed7] at q
    clear e
    -- deed == 8
    refine ⟨_, rfl, rfl, _, rfl, ite2 (fun e => ?_) (fun e => ?_)⟩
    · have ed : d = 8 := V.int.inj (of_decide_eq_true e)
      rw [if_pos ed] at q
      refine ⟨_, rfl, _, rfl, p, n, rfl, hp, hp2, by omega, fun H1 r sm nr hr1 => ?_⟩
      refine ⟨r, rowL p n, rfl, SqL.of hr1, by rw [rowL_len]; omega, fun m hm hle => ⟨(by show 1 ≤ sizeLine; decide), fun c nc => ?_⟩⟩
      exact newl_one q sm (by rw [most_of p n m hm hle]) c nc
    have ed8 : ¬ d = 8 := fun z => e (decide_eq_true (congrArg V.int z))
    rw [if_neg ed8] at q
    clear e
    -- deed == 9
    refine ⟨_, rfl, rfl, _, rfl, ite2 (fun e => ?_) (fun e => ?_)⟩
    · have ed : d = 9 := V.int.inj (of_decide_eq_true e)
      rw [if_pos ed] at q
      exact ⟨_, rfl, _, rfl, p, n, rfl, hp, hp2, by omega, q⟩
    have ed9 : ¬ d = 9 := fun z => e (decide_eq_true (congrArg V.int z))
    rw [if_neg ed9] at q
    clear e
    -- deed == 12
    refine ⟨_, rfl, rfl, _, rfl, ite2 (fun e => ?_) (fun e => ?_)⟩
    · have ed : d = 12 := V.int.inj (of_decide_eq_true e)
      rw [if_pos ed] at q
      refine ⟨_, rfl, _, rfl, _, rfl, p, n, n, rfl, hp, hp2, hn, hn, (by show 1 ≤ sizeLine; decide), fun c nc => ?_⟩
      exact newl_one q (Same.refl _) rfl c nc
    have ed12 : ¬ d = 12 := fun z => e (decide_eq_true (congrArg V.int z))
    rw [if_neg ed12] at q
    clear e
    have hn3 := hn2 ed5 ed12
    -- deed == 14
    refine ⟨_, rfl, rfl, _, rfl, ite2 (fun e => ?_) (fun e => ?_)⟩
    · have ed : d = 14 := V.int.inj (of_decide_eq_true e)
      rw [if_pos ed] at q
      refine ⟨_, rfl, _, rfl, p, n, rfl, hp, hp2, by omega, fun H1 r sm nr hr1 => ?_⟩
      refine ⟨.inl ⟨rfl, _, SqL.of hr1⟩, _, rfl, a, _, _, _, rfl, rfl, SqL.of (sm _ _ hS), at1 (h1 ed), r, rowL p n, (c : Int), rfl, rfl, SqL.of hr1, (by show 1 ≤ sizeLine; decide), fun x nx => ?_⟩
      exact newl_one q sm (by rw [count_of]) x nx
    have ed14 : ¬ d = 14 := fun z => e (decide_eq_true (congrArg V.int z))
    rw [if_neg ed14] at q
    exact ⟨_, rfl, _, rfl, _, rfl, p, n, d, rfl, hp, hp2, hn3, q⟩
end
end Pc

/-! One call: what the program answers is what the specification's step answers. Plain Lean. -/
namespace Pc

def StOk (st : Option Nat) : Prop := ∀ p, st = some p → 2 ≤ p ∧ p < 100
def primeOf (st : Option Nat) : Int := ((st.getD 0 : Nat) : Int)
def putL (st : Option Nat) (d : Int) (q : Nat) : Option Nat × List Int :=
  if Kp266.okP q = true then (some q, [if d = 0 then (q : Int) else primeOf st]) else (st, [-22])
def ansL (st : Option Nat) (d : Int) (n k : Nat) : Option Nat × List Int :=
  if 0 < d ∧ primeOf st = 0 then (st, [-11]) else
  if d = 0 ∨ d = 1 then putL st d n else
  if d = 15 then (st, [primeOf st]) else
  if boundOf d < (n : Int) ∨ ((d = 2 ∨ d = 3) ∧ n < k) then (st, [-22]) else
  if d = 2 then (st, [((Kp268.choose n k / 1000000000 : Nat) : Int), ((Kp268.choose n k % 1000000000 : Nat) : Int)]) else
  if d = 3 then (st, [((Kp268.times (st.getD 0) n k : Nat) : Int)]) else (st, ofRowL (st.getD 0) d n k)
structure NumsOk (d : Int) (ns : List Int) (n k : Nat) : Prop where
  lo : 0 ≤ d
  hi : d ≤ 15
  one : d ≠ 15 → ns[0]? = some (n : Int)
  two : d = 2 ∨ d = 3 ∨ d = 14 → ns[1]? = some (k : Int)

theorem okP_bounds {q : Nat} (h : Kp266.okP q = true) : 2 ≤ q ∧ q < 100 := by
  unfold Kp266.okP at h
  rw [Bool.and_eq_true, decide_eq_true_iff] at h
  exact ⟨((isPrime_iff q).mp h.2).1, h.1⟩
theorem putL_ok {st : Option Nat} (h : StOk st) (d : Int) (q : Nat) : StOk (putL st d q).1 := by
  unfold putL
  by_cases c : Kp266.okP q = true
  · rw [if_pos c]
    intro p e
    cases e
    exact okP_bounds c
  · rw [if_neg c]
    exact h
theorem ansL_ok {st : Option Nat} (h : StOk st) (d : Int) (n k : Nat) : StOk (ansL st d n k).1 := by
  unfold ansL
  repeat' split
  all_goals first | exact h | exact putL_ok h d n

theorem nat_of {a : Int} (h : Kp268Neutral.natural a = true) : a = ((a.toNat : Nat) : Int) := by
  unfold Kp268Neutral.natural at h
  rw [Bool.and_eq_true, decide_eq_true_iff] at h
  omega

theorem ans_none {d : Int} (n k : Nat) (hd : 0 < d) : ansL none d n k = (none, [-11]) := by
  unfold ansL
  rw [if_pos ⟨hd, rfl⟩]
theorem ans_some {p : Nat} (hp : 2 ≤ p) {d : Int} (n k : Nat) (h0 : d ≠ 0) (h1 : d ≠ 1) (h15 : d ≠ 15) :
    ansL (some p) d n k = if boundOf d < (n : Int) ∨ ((d = 2 ∨ d = 3) ∧ n < k) then (some p, [-22]) else
      if d = 2 then (some p, [((Kp268.choose n k / 1000000000 : Nat) : Int), ((Kp268.choose n k % 1000000000 : Nat) : Int)]) else
      if d = 3 then (some p, [((Kp268.times p n k : Nat) : Int)]) else (some p, ofRowL p d n k) := by
  have e : ¬ (0 < d ∧ primeOf (some p) = 0) := fun z => by
    have z2 : ((p : Nat) : Int) = 0 := z.2
    omega
  unfold ansL
  rw [if_neg e, if_neg (fun z => z.elim h0 h1), if_neg h15]
  rfl
/-- of a row's calls alone -/
theorem ans_row {p : Nat} (hp : 2 ≤ p) {d : Int} (n k b : Nat) (h0 : d ≠ 0) (h1 : d ≠ 1) (h15 : d ≠ 15) (h2 : d ≠ 2) (h3 : d ≠ 3) (hb : boundOf d = (b : Int)) :
    ansL (some p) d n k = if b < n then (some p, [-22]) else (some p, ofRowL p d n k) := by
  rw [ans_some hp n k h0 h1 h15, hb, if_neg h2, if_neg h3]
  by_cases c : b < n
  · rw [if_pos c, if_pos (.inl (by omega))]
  · rw [if_neg c, if_neg (fun z => by rcases z with z | z; · omega
                                      · exact z.1.elim h2 h3)]

/-- what the specification tells, as a list -/
def toldA (y : Option Nat × Kp268.Ans) : Option Nat × List Int := (y.1, y.2.num :: y.2.nums)

theorem toldA_if {c : Prop} [Decidable c] (st : Option Nat) (x y : Kp268.Ans) (lx ly : List Int) (hx : x.num :: x.nums = lx) (hy : y.num :: y.nums = ly) : toldA (st, if c then x else y) = if c then (st, lx) else (st, ly) := by
  by_cases h : c
  · rw [if_pos h, if_pos h, ← hx]
    rfl
  · rw [if_neg h, if_neg h, ← hy]
    rfl

theorem first_eq (p n : Nat) : firstL p n = (match (List.range (n + 1)).find? fun k => Kp268.times p n k != 0 with
    | some k => (⟨(k : Int), Kp268.ints [Kp268.times p n k]⟩ : Kp268.Ans)
    | none => Kp268.say (-33)).num :: (match (List.range (n + 1)).find? fun k => Kp268.times p n k != 0 with
    | some k => (⟨(k : Int), Kp268.ints [Kp268.times p n k]⟩ : Kp268.Ans)
    | none => Kp268.say (-33)).nums := by
  unfold firstL
  cases (List.range (n + 1)).find? fun k => Kp268.times p n k != 0 with
  | some k => rfl
  | none => rfl

theorem rowL_tell (p n : Nat) : ((rowL p n).length : Int) :: rowL p n = (((List.range (n + 1)).map (Kp268.times p n)).length : Int) :: Kp268.ints ((List.range (n + 1)).map (Kp268.times p n)) := by
  unfold rowL Kp268.ints
  rw [List.length_map, List.length_map, List.map_map]
  rfl
theorem castL_tell (l : List Nat) : ((castL l).length : Int) :: castL l = (l.length : Int) :: Kp268.ints l := by
  rw [castL_len]
  rfl

theorem law_begin (st : Option Nat) (q k : Nat) : toldA (Kp268.step st (.begin_ q)) = ansL st 0 q k := by
  have e : ansL st 0 q k = putL st 0 q := by
    unfold ansL
    rw [if_neg (fun z => absurd z.1 (by decide)), if_pos (.inl rfl)]
  rw [e]
  unfold putL
  show toldA (if Kp266.okP q = true then (some q, Kp268.say (q : Int)) else (st, Kp268.say (-22))) = _
  by_cases c : Kp266.okP q = true
  · rw [if_pos c, if_pos c]
    rfl
  · rw [if_neg c, if_neg c]
    rfl
theorem law_none (c : Kp268.Call) (h : ∀ q, c ≠ .begin_ q) : toldA (Kp268.step none c) = (none, [-11]) := by
  cases c <;> first | rfl | exact absurd rfl (h _)

theorem law_prime (p q k : Nat) (hp : 2 ≤ p) : toldA (Kp268.step (some p) (.prime q)) = ansL (some p) 1 q k := by
  have e : ansL (some p) 1 q k = putL (some p) 1 q := by
    unfold ansL
    have z : ¬ ((0 : Int) < 1 ∧ primeOf (some p) = 0) := fun z => by
      have z2 : ((p : Nat) : Int) = 0 := z.2
      omega
    rw [if_neg z, if_pos (.inr rfl)]
  rw [e]
  unfold putL
  show toldA (if Kp266.okP q = true then (some q, Kp268.say (p : Int)) else (some p, Kp268.say (-22))) = _
  by_cases c : Kp266.okP q = true
  · rw [if_pos c, if_pos c]
    rfl
  · rw [if_neg c, if_neg c]
    rfl
theorem law_told (p n k : Nat) (hp : 2 ≤ p) : toldA (Kp268.step (some p) .told) = ansL (some p) 15 n k := by
  unfold ansL
  have z : ¬ ((0 : Int) < 15 ∧ primeOf (some p) = 0) := fun z => by
    have z2 : ((p : Nat) : Int) = 0 := z.2
    omega
  rw [if_neg z, if_neg (by decide), if_pos rfl]
  rfl
theorem law_choose (p n k : Nat) (hp : 2 ≤ p) : toldA (Kp268.step (some p) (.choose n k)) = ansL (some p) 2 n k := by
  rw [ans_some hp n k (by decide) (by decide) (by decide), if_pos rfl]
  have e : boundOf 2 = 60 := by decide
  rw [e]
  refine (toldA_if (some p) _ _ [-22] _ rfl rfl).trans ?_
  by_cases c : 60 < n ∨ n < k
  · rw [if_pos c, if_pos (c.elim (fun z => .inl (by omega)) fun z => .inr ⟨.inl rfl, z⟩)]
  · rw [if_neg c, if_neg (fun z => c (z.elim (fun z => .inl (by omega)) fun z => .inr z.2))]
    rfl
theorem law_times (p n k : Nat) (hp : 2 ≤ p) : toldA (Kp268.step (some p) (.times n k)) = ansL (some p) 3 n k := by
  rw [ans_some hp n k (by decide) (by decide) (by decide), if_neg (show ¬ (3 : Int) = 2 by decide), if_pos rfl]
  have e : boundOf 3 = 1000000 := by decide
  rw [e]
  refine (toldA_if (some p) _ _ [-22] _ rfl rfl).trans ?_
  by_cases c : Kp268.MOST < n ∨ n < k
  · rw [if_pos c, if_pos (c.elim (fun z => .inl (by unfold Kp268.MOST at z; omega)) fun z => .inr ⟨.inr rfl, z⟩)]
  · rw [if_neg c, if_neg (fun z => c (z.elim (fun z => .inl (by unfold Kp268.MOST; omega)) fun z => .inr z.2))]
    rfl
theorem law_row (p n k : Nat) (hp : 2 ≤ p) : toldA (Kp268.step (some p) (.row n)) = ansL (some p) 4 n k := by
  rw [ans_row hp n k 60 (by decide) (by decide) (by decide) (by decide) (by decide) (by decide)]
  refine (toldA_if (some p) _ _ [-22] _ rfl rfl).trans ?_
  have e : ofRowL p 4 n k = ((rowL p n).length : Int) :: rowL p n := rfl
  rw [e, rowL_tell]
  rfl
theorem law_spared (p n k : Nat) (hp : 2 ≤ p) : toldA (Kp268.step (some p) (.spared n)) = ansL (some p) 5 n k := by
  rw [ans_row hp n k 1000000 (by decide) (by decide) (by decide) (by decide) (by decide) (by decide)]
  exact (toldA_if (some p) _ _ [-22] _ rfl rfl).trans rfl
theorem law_whole (p n k : Nat) (hp : 2 ≤ p) : toldA (Kp268.step (some p) (.whole n)) = ansL (some p) 6 n k := by
  rw [ans_row hp n k 200 (by decide) (by decide) (by decide) (by decide) (by decide) (by decide)]
  exact (toldA_if (some p) _ _ [-22] _ rfl rfl).trans rfl
theorem law_bare (p n k : Nat) (hp : 2 ≤ p) : toldA (Kp268.step (some p) (.none_ n)) = ansL (some p) 7 n k := by
  rw [ans_row hp n k 200 (by decide) (by decide) (by decide) (by decide) (by decide) (by decide)]
  exact (toldA_if (some p) _ _ [-22] _ rfl rfl).trans rfl
theorem law_most (p n k : Nat) (hp : 2 ≤ p) : toldA (Kp268.step (some p) (.most n)) = ansL (some p) 8 n k := by
  rw [ans_row hp n k 200 (by decide) (by decide) (by decide) (by decide) (by decide) (by decide)]
  exact (toldA_if (some p) _ _ [-22] _ rfl rfl).trans rfl
theorem law_first (p n k : Nat) (hp : 2 ≤ p) : toldA (Kp268.step (some p) (.first n)) = ansL (some p) 9 n k := by
  rw [ans_row hp n k 200 (by decide) (by decide) (by decide) (by decide) (by decide) (by decide)]
  refine (toldA_if (some p) _ _ [-22] _ rfl rfl).trans ?_
  have e : ofRowL p 9 n k = firstL p n := rfl
  rw [e, first_eq]
  rfl
theorem law_rows (p n k : Nat) (hp : 2 ≤ p) : toldA (Kp268.step (some p) (.rows n)) = ansL (some p) 10 n k := by
  rw [ans_row hp n k 100 (by decide) (by decide) (by decide) (by decide) (by decide) (by decide)]
  refine (toldA_if (some p) _ _ [-22] _ rfl rfl).trans ?_
  have e : ofRowL p 10 n k = ((wholeL p (n + 1)).length : Int) :: wholeL p (n + 1) := rfl
  rw [e]
  unfold wholeL
  rw [castL_tell]
  rfl
theorem law_bares (p n k : Nat) (hp : 2 ≤ p) : toldA (Kp268.step (some p) (.bare n)) = ansL (some p) 11 n k := by
  rw [ans_row hp n k 100 (by decide) (by decide) (by decide) (by decide) (by decide) (by decide)]
  refine (toldA_if (some p) _ _ [-22] _ rfl rfl).trans ?_
  have e : ofRowL p 11 n k = ((bareL p (n + 1)).length : Int) :: bareL p (n + 1) := rfl
  rw [e]
  unfold bareL
  rw [castL_tell]
  rfl
theorem law_middle (p n k : Nat) (hp : 2 ≤ p) : toldA (Kp268.step (some p) (.middle n)) = ansL (some p) 12 n k := by
  rw [ans_row hp n k 500000 (by decide) (by decide) (by decide) (by decide) (by decide) (by decide)]
  refine (toldA_if (some p) _ _ [-22] _ rfl rfl).trans ?_
  have e : ofRowL p 12 n k = [(((Kp266.places p n n).length : Nat) : Int)] := rfl
  have e2 : Kp268.times p (2 * n) n = (Kp266.places p n n).length := by
    unfold Kp268.times
    rw [show 2 * n - n = n by omega]
  have e3 : Kp268.MOST < 2 * n ↔ 500000 < n := by
    unfold Kp268.MOST
    omega
  rw [e, e2]
  by_cases c : 500000 < n
  · rw [if_pos c, if_pos (e3.mpr c)]
  · rw [if_neg c, if_neg (fun z => c (e3.mp z))]
    rfl
theorem law_below (p n k : Nat) (hp : 2 ≤ p) : toldA (Kp268.step (some p) (.below n)) = ansL (some p) 13 n k := by
  rw [ans_row hp n k 100 (by decide) (by decide) (by decide) (by decide) (by decide) (by decide)]
  exact (toldA_if (some p) _ _ [-22] _ rfl rfl).trans rfl
theorem law_with (p n k : Nat) (hp : 2 ≤ p) : toldA (Kp268.step (some p) (.with_ n k)) = ansL (some p) 14 n k := by
  rw [ans_row hp n k 200 (by decide) (by decide) (by decide) (by decide) (by decide) (by decide)]
  exact (toldA_if (some p) _ _ [-22] _ rfl rfl).trans rfl

theorem step_of {st : Option Nat} {c : List (List Int)} {x : Kp268.Call} (h : Kp268Neutral.callOf c = some x) : Kp268Neutral.step st c = toldA (Kp268.step st x) := by
  unfold Kp268Neutral.step
  rw [h]
  rfl
theorem law_any {st : Option Nat} (ok : StOk st) {c : List (List Int)} {x : Kp268.Call} {d : Int} {n k : Nat} (h : Kp268Neutral.callOf c = some x) (hx : ∀ q, x ≠ .begin_ q) (hd : 0 < d)
    (l : ∀ p, 2 ≤ p → toldA (Kp268.step (some p) x) = ansL (some p) d n k) : Kp268Neutral.step st c = ansL st d n k := by
  rw [step_of h]
  cases st with
  | none => rw [law_none x hx, ans_none n k hd]
  | some p => exact l p (ok p rfl).1
/-- **one call** -/
theorem step_law {st : Option Nat} (ok : StOk st) {c : List Int} (h : Kp268Neutral.asked1 [c] = true) :
    ∃ (d : Int) (ns : List Int) (n k : Nat), c = d :: ns ∧ NumsOk d ns n k ∧ Kp268Neutral.step st [c] = ansL st d n k := by
  unfold Kp268Neutral.asked1 at h
  split at h
  · rename_i a e
    obtain rfl := (List.cons.inj e).1
    exact ⟨0, [a], a.toNat, 0, rfl, ⟨by decide, by decide, fun _ => congrArg some (nat_of h), fun z => by omega⟩, (step_of (x := .begin_ a.toNat) rfl).trans (law_begin st _ _)⟩
  · rename_i a e
    obtain rfl := (List.cons.inj e).1
    exact ⟨1, [a], a.toNat, 0, rfl, ⟨by decide, by decide, fun _ => congrArg some (nat_of h), fun z => by omega⟩, law_any ok (x := .prime a.toNat) rfl (fun _ z => by cases z) (by decide) fun p hp => law_prime p _ _ hp⟩
  · rename_i a b e
    obtain rfl := (List.cons.inj e).1
    rw [Bool.and_eq_true] at h
    exact ⟨2, [a, b], a.toNat, b.toNat, rfl, ⟨by decide, by decide, fun _ => congrArg some (nat_of h.1), fun _ => congrArg some (nat_of h.2)⟩, law_any ok (x := .choose a.toNat b.toNat) rfl (fun _ z => by cases z) (by decide) fun p hp => law_choose p _ _ hp⟩
  · rename_i a b e
    obtain rfl := (List.cons.inj e).1
    rw [Bool.and_eq_true] at h
    exact ⟨3, [a, b], a.toNat, b.toNat, rfl, ⟨by decide, by decide, fun _ => congrArg some (nat_of h.1), fun _ => congrArg some (nat_of h.2)⟩, law_any ok (x := .times a.toNat b.toNat) rfl (fun _ z => by cases z) (by decide) fun p hp => law_times p _ _ hp⟩
  · rename_i a e
    obtain rfl := (List.cons.inj e).1
    exact ⟨4, [a], a.toNat, 0, rfl, ⟨by decide, by decide, fun _ => congrArg some (nat_of h), fun z => by omega⟩, law_any ok (x := .row a.toNat) rfl (fun _ z => by cases z) (by decide) fun p hp => law_row p _ _ hp⟩
  · rename_i a e
    obtain rfl := (List.cons.inj e).1
    exact ⟨5, [a], a.toNat, 0, rfl, ⟨by decide, by decide, fun _ => congrArg some (nat_of h), fun z => by omega⟩, law_any ok (x := .spared a.toNat) rfl (fun _ z => by cases z) (by decide) fun p hp => law_spared p _ _ hp⟩
  · rename_i a e
    obtain rfl := (List.cons.inj e).1
    exact ⟨6, [a], a.toNat, 0, rfl, ⟨by decide, by decide, fun _ => congrArg some (nat_of h), fun z => by omega⟩, law_any ok (x := .whole a.toNat) rfl (fun _ z => by cases z) (by decide) fun p hp => law_whole p _ _ hp⟩
  · rename_i a e
    obtain rfl := (List.cons.inj e).1
    exact ⟨7, [a], a.toNat, 0, rfl, ⟨by decide, by decide, fun _ => congrArg some (nat_of h), fun z => by omega⟩, law_any ok (x := .none_ a.toNat) rfl (fun _ z => by cases z) (by decide) fun p hp => law_bare p _ _ hp⟩
  · rename_i a e
    obtain rfl := (List.cons.inj e).1
    exact ⟨8, [a], a.toNat, 0, rfl, ⟨by decide, by decide, fun _ => congrArg some (nat_of h), fun z => by omega⟩, law_any ok (x := .most a.toNat) rfl (fun _ z => by cases z) (by decide) fun p hp => law_most p _ _ hp⟩
  · rename_i a e
    obtain rfl := (List.cons.inj e).1
    exact ⟨9, [a], a.toNat, 0, rfl, ⟨by decide, by decide, fun _ => congrArg some (nat_of h), fun z => by omega⟩, law_any ok (x := .first a.toNat) rfl (fun _ z => by cases z) (by decide) fun p hp => law_first p _ _ hp⟩
  · rename_i a e
    obtain rfl := (List.cons.inj e).1
    exact ⟨10, [a], a.toNat, 0, rfl, ⟨by decide, by decide, fun _ => congrArg some (nat_of h), fun z => by omega⟩, law_any ok (x := .rows a.toNat) rfl (fun _ z => by cases z) (by decide) fun p hp => law_rows p _ _ hp⟩
  · rename_i a e
    obtain rfl := (List.cons.inj e).1
    exact ⟨11, [a], a.toNat, 0, rfl, ⟨by decide, by decide, fun _ => congrArg some (nat_of h), fun z => by omega⟩, law_any ok (x := .bare a.toNat) rfl (fun _ z => by cases z) (by decide) fun p hp => law_bares p _ _ hp⟩
  · rename_i a e
    obtain rfl := (List.cons.inj e).1
    exact ⟨12, [a], a.toNat, 0, rfl, ⟨by decide, by decide, fun _ => congrArg some (nat_of h), fun z => by omega⟩, law_any ok (x := .middle a.toNat) rfl (fun _ z => by cases z) (by decide) fun p hp => law_middle p _ _ hp⟩
  · rename_i a e
    obtain rfl := (List.cons.inj e).1
    exact ⟨13, [a], a.toNat, 0, rfl, ⟨by decide, by decide, fun _ => congrArg some (nat_of h), fun z => by omega⟩, law_any ok (x := .below a.toNat) rfl (fun _ z => by cases z) (by decide) fun p hp => law_below p _ _ hp⟩
  · rename_i a b e
    obtain rfl := (List.cons.inj e).1
    rw [Bool.and_eq_true] at h
    exact ⟨14, [a, b], a.toNat, b.toNat, rfl, ⟨by decide, by decide, fun _ => congrArg some (nat_of h.1), fun _ => congrArg some (nat_of h.2)⟩, law_any ok (x := .with_ a.toNat b.toNat) rfl (fun _ z => by cases z) (by decide) fun p hp => law_with p _ _ hp⟩
  · rename_i e
    obtain rfl := (List.cons.inj e).1
    exact ⟨15, [], 0, 0, rfl, ⟨by decide, by decide, fun z => absurd rfl z, fun z => by omega⟩, law_any ok (x := .told) rfl (fun _ z => by cases z) (by decide) fun p hp => law_told p _ _ hp⟩
  · cases h

/-! ### the list of calls -/
def numbersL : List Nat := [1, 1, 2, 2, 1, 1, 1, 1, 1, 1, 1, 1, 1, 1, 2, 0]
theorem shape_of {d : Int} {m k : Nat} (h : PyKp268.shape d = some (m, k)) : k = 0 ∧ 0 ≤ d ∧ d ≤ 15 ∧ numbersL[d.toNat]? = some m := by
  unfold PyKp268.shape at h
  by_cases h0 : d = 0
  · rw [if_pos h0] at h
    subst h0
    cases h
    exact ⟨rfl, by decide, by decide, rfl⟩
  rw [if_neg h0] at h
  by_cases h1 : d = 1
  · rw [if_pos h1] at h
    subst h1
    cases h
    exact ⟨rfl, by decide, by decide, rfl⟩
  rw [if_neg h1] at h
  by_cases h2 : d = 2
  · rw [if_pos h2] at h
    subst h2
    cases h
    exact ⟨rfl, by decide, by decide, rfl⟩
  rw [if_neg h2] at h
  by_cases h3 : d = 3
  · rw [if_pos h3] at h
    subst h3
    cases h
    exact ⟨rfl, by decide, by decide, rfl⟩
  rw [if_neg h3] at h
  by_cases h4 : d = 4
  · rw [if_pos h4] at h
    subst h4
    cases h
    exact ⟨rfl, by decide, by decide, rfl⟩
  rw [if_neg h4] at h
  by_cases h5 : d = 5
  · rw [if_pos h5] at h
    subst h5
    cases h
    exact ⟨rfl, by decide, by decide, rfl⟩
  rw [if_neg h5] at h
  by_cases h6 : d = 6
  · rw [if_pos h6] at h
    subst h6
    cases h
    exact ⟨rfl, by decide, by decide, rfl⟩
  rw [if_neg h6] at h
  by_cases h7 : d = 7
  · rw [if_pos h7] at h
    subst h7
    cases h
    exact ⟨rfl, by decide, by decide, rfl⟩
  rw [if_neg h7] at h
  by_cases h8 : d = 8
  · rw [if_pos h8] at h
    subst h8
    cases h
    exact ⟨rfl, by decide, by decide, rfl⟩
  rw [if_neg h8] at h
  by_cases h9 : d = 9
  · rw [if_pos h9] at h
    subst h9
    cases h
    exact ⟨rfl, by decide, by decide, rfl⟩
  rw [if_neg h9] at h
  by_cases h10 : d = 10
  · rw [if_pos h10] at h
    subst h10
    cases h
    exact ⟨rfl, by decide, by decide, rfl⟩
  rw [if_neg h10] at h
  by_cases h11 : d = 11
  · rw [if_pos h11] at h
    subst h11
    cases h
    exact ⟨rfl, by decide, by decide, rfl⟩
  rw [if_neg h11] at h
  by_cases h12 : d = 12
  · rw [if_pos h12] at h
    subst h12
    cases h
    exact ⟨rfl, by decide, by decide, rfl⟩
  rw [if_neg h12] at h
  by_cases h13 : d = 13
  · rw [if_pos h13] at h
    subst h13
    cases h
    exact ⟨rfl, by decide, by decide, rfl⟩
  rw [if_neg h13] at h
  by_cases h14 : d = 14
  · rw [if_pos h14] at h
    subst h14
    cases h
    exact ⟨rfl, by decide, by decide, rfl⟩
  rw [if_neg h14] at h
  by_cases h15 : d = 15
  · rw [if_pos h15] at h
    subst h15
    cases h
    exact ⟨rfl, by decide, by decide, rfl⟩
  rw [if_neg h15] at h
  cases h
theorem calls_turn {f : Nat} {d : Int} {r : List Int} {cs : List (List (List Int))} (h : PyFlat.calls PyKp268.shape f (d :: r) = some cs) :
    ∃ (g m : Nat) (cs' : List (List (List Int))), numbersL[d.toNat]? = some m ∧ 0 ≤ d ∧ d ≤ 15 ∧ m ≤ r.length ∧ cs = [d :: r.take m] :: cs' ∧ PyFlat.calls PyKp268.shape g (r.drop m) = some cs' := by
  cases f with
  | zero => cases h
  | succ f =>
    have h1 : (match PyFlat.call PyKp268.shape (d :: r) with
      | none => none
      | some (c, t) => match PyFlat.calls PyKp268.shape f t with
        | none => none
        | some cs => some (c :: cs)) = some cs := h
    cases e : PyFlat.call PyKp268.shape (d :: r) with
    | none =>
      rw [e] at h1
      cases h1
    | some q =>
      obtain ⟨c, t⟩ := q
      rw [e] at h1
      have h2 : (match PyFlat.calls PyKp268.shape f t with
        | none => none
        | some cs => some (c :: cs)) = some cs := h1
      have h3 : (match PyKp268.shape d with
        | none => none
        | some (n, k) => if r.length < n then none else match PyFlat.rows k (r.drop n) with
          | none => none
          | some (xs, t) => some ((d :: r.take n) :: xs, t)) = some (c, t) := e
      cases e2 : PyKp268.shape d with
      | none =>
        rw [e2] at h3
        cases h3
      | some q =>
        obtain ⟨m, k⟩ := q
        rw [e2] at h3
        obtain ⟨rfl, d0, d15, hm⟩ := shape_of e2
        have h4 : (if r.length < m then none else some ([d :: r.take m], r.drop m)) = some (c, t) := h3
        by_cases hl : r.length < m
        · rw [if_pos hl] at h4
          cases h4
        · rw [if_neg hl] at h4
          cases h4
          cases e3 : PyFlat.calls PyKp268.shape f (r.drop m) with
          | none =>
            rw [e3] at h2
            cases h2
          | some cs' =>
            rw [e3] at h2
            exact ⟨f, m, cs', hm, d0, d15, by omega, (Option.some.inj h2).symm, e3⟩
theorem whole_id (c : List (List Int)) : PyKp268.whole c = c := by
  unfold PyKp268.whole
  split <;> rfl
theorem map_whole (cs : List (List (List Int))) : cs.map PyKp268.whole = cs := by
  rw [show PyKp268.whole = id from funext whole_id, List.map_id]
theorem answers_of {l : List Int} {raw : List (List (List Int))} (h : PyFlat.calls PyKp268.shape l.length l = some raw) : PyKp268.answers l = PyFlat.told (PyFlat.played Kp268Neutral.step Kp268Neutral.start raw) := by
  unfold PyKp268.answers PyKp268.calls
  rw [h]
  show PyFlat.told (PyFlat.played Kp268Neutral.step Kp268Neutral.start (raw.map PyKp268.whole)) = _
  rw [map_whole]
theorem asked_of {l : List Int} (h : PyKp268.answers_asked l = true) : ∃ raw, PyFlat.calls PyKp268.shape l.length l = some raw ∧ (∀ c ∈ raw, Kp268Neutral.asked1 c = true) ∧ (PyKp268.answers l).length ≤ 10000000 := by
  unfold PyKp268.answers_asked at h
  cases e : PyFlat.calls PyKp268.shape l.length l with
  | none =>
    rw [e] at h
    cases h
  | some raw =>
    rw [e] at h
    dsimp only at h
    rw [Bool.and_eq_true, Bool.and_eq_true, map_whole] at h
    obtain ⟨⟨_, h1⟩, h2⟩ := h
    unfold Kp268Neutral.asked at h1
    rw [Bool.and_eq_true, Bool.and_eq_true, List.all_eq_true] at h1
    exact ⟨raw, rfl, h1.2.2, of_decide_eq_true h2⟩
theorem told_cons (st : Option Nat) (c : List (List Int)) (cs : List (List (List Int))) :
    PyFlat.told (PyFlat.played Kp268Neutral.step st (c :: cs)) = (((Kp268Neutral.step st c).2.length : Nat) : Int) :: ((Kp268Neutral.step st c).2 ++ PyFlat.told (PyFlat.played Kp268Neutral.step (Kp268Neutral.step st c).1 cs)) := rfl
end Pc

/-! Desk and answers. -/
namespace Pc
open PySem PySem.Spec PyProof.Rows L2
open PySem.W (Codec)

/-! ### the desk in the heap -/
def dF (z : Int) : List (Str × V) := [("prime", .int z)]
def DeskAt (C : Addr) (H : Hp) (x : Addr) (z : Int) : Prop := ∃ dx, H x = some (.ins C dx (dF z))
theorem dF_prime (z : Int) : (dF z).lookup ("prime" : Str) = some (.int z) := by
  have e : (("prime" : Str) == "prime") = true := beq_self_eq_true _
  simp only [dF, List.lookup, e]
theorem dF_put (z : Int) : (dF z).lookup ("put_prime" : Str) = none := by
  have e : (("put_prime" : Str) == "prime") = false := by decide +kernel
  simp only [dF, List.lookup, e]
theorem dF_ans (z : Int) : (dF z).lookup ("answer" : Str) = none := by
  have e : (("answer" : Str) == "prime") = false := by decide +kernel
  simp only [dF, List.lookup, e]
theorem dF_set (z y : Int) : putF "prime" (.int y) (dF z) = dF y := if_pos rfl
theorem dF_new (y : Int) : putF "prime" (.int y) [] = dF y := rfl

/-- what is told of the class and of the module's tables -/
structure Txt (K : PySem.W.Frag) (mg : Str → Option Value) (C : Addr) : Prop where
  cl : Cls K C
  nP : NoAttr K C "prime"
  gC : mg "Desk" = some (.ref C)
  tW : ∃ t, mg "WRONG" = some (.int (-22) t)
  tN : ∃ t, mg "NOT_BEGUN" = some (.int (-11) t)
  tM : ∃ t, mg "MOST_PRIME" = some (.int 100 t)
  pl : ∃ a, mg "OF_PLACES" = some (.ref a) ∧ ∀ H, SqT K H a [.int 2, .int 3]
  nu : ∃ a, mg "NUMBERS" = some (.ref a) ∧ ∀ H, SqT K H a (numbersL.map fun (m : Nat) => V.int (m : Int))

/-- a new list of these ints; all else but the desk as it was, the desk with that prime -/
def NewD (C x : Addr) (H : Hp) (a : Option Nat × List Int) (Q : VK) : Prop := ∀ (H' : Hp) (q : Addr), (∀ b o, H b = some o → b ≠ x → H' b = some o) → DeskAt C H' x (primeOf a.1) → H q = none → H' q = some (.lst (a.2.map V.int)) → Q (.ref q) H'
theorem NewD.of_same {C x : Addr} {H : Hp} {a : Option Nat × List Int} {Q : VK} {st : Option Nat} (q : NewD C x H a Q) (hx : DeskAt C H x (primeOf st)) (e : a.1 = st) : NewL H a.2 Q := fun H' c sm nc hc => by
  obtain ⟨dx, hx⟩ := hx
  refine q H' c (fun b o h _ => sm b o h) ⟨dx, ?_⟩ nc hc
  rw [e]
  exact sm _ _ hx

def spInit (C : Addr) : Sp := fun vs H Q _ => ∃ (x dx : Addr), vs = [.ref x] ∧ H x = some (.ins C dx []) ∧
  ∀ H' : Hp, DeskAt C H' x 0 → (∀ b o, H b = some o → b ≠ x → H' b = some o) → Q .non H'
def spPut (C : Addr) : Sp := fun vs H Q _ => ∃ (x : Addr) (d : Int) (n : Nat) (st : Option Nat), vs = [.ref x, .int d, .int n] ∧ DeskAt C H x (primeOf st) ∧ NewD C x H (putL st d n) Q
def spAnswer (C : Addr) : Sp := fun vs H Q _ => ∃ (x a : Addr) (d : Int) (ns : List Int) (n k : Nat) (st : Option Nat), vs = [.ref x, .int d, .ref a] ∧ DeskAt C H x (primeOf st) ∧ StOk st ∧ H a = some (.lst (ns.map V.int)) ∧ NumsOk d ns n k ∧
  NewD C x H (ansL st d n k) Q
def spAns (K : PySem.W.Frag) : Sp := fun vs H Q _ => ∃ (a : Addr) (ns : List Int), vs = [.ref a] ∧ SqL K H a (ns.map V.int) ∧ PyKp268.answers_asked ns = true ∧
  ∀ (H' : Hp) (p : Addr), H' p = some (.lst ((PyKp268.answers ns).map V.int)) → Q (.ref p) H'

section
variable {P : Program} {w : World} {K : PySem.W.Frag} {mg : Str → Option Value} {base : Heap} {C : Addr}

/-! ### __init__ -/
theorem scInit : FnScope ["self"] ["self"] (defScope sInit) := ⟨rfl, rfl, rfl, by decide +kernel, rfl, by decide +kernel, by decide +kernel⟩
theorem ok_init {f : Addr} {fd : FuncData} {k : Nat} (F : Fun K "__init__" "Desk.__init__" sInit f fd) (T : Txt K mg C) : FnOk P w K mg base CX0 (k + 1) f fd ["self"] (spInit C) := by
  refine F.ok scInit (fun vs H Q E h => ?_) (fun cdv A outer s H vs Q E hr h => ?_)
  · obtain ⟨x, dx, rfl, _⟩ := h
    rfl
  · obtain ⟨x, dx, rfl, hx, q⟩ := h
    refine ⟨_, pss_one (ps_fld (pv 0) pe_int rfl), ?_⟩
    refine ⟨_, rfl, x, C, dx, [], rfl, hx, T.cl, T.nP, (by show 0 < 1000; decide), ?_⟩
    refine q _ ⟨dx, upd_same⟩ fun b o e hb => ?_
    rw [upd_ne hb]
    exact e

/-! ### put_prime -/
theorem scPut : FnScope ["self", "deed", "prime", "before"] ["self", "deed", "prime"] (defScope sPut) := ⟨rfl, rfl, rfl, by decide +kernel, rfl, by decide +kernel, by decide +kernel⟩
theorem ok_put {f fP : Addr} {fd fdP : FuncData} {k : Nat} (F : Fun K "put_prime" "Desk.put_prime" sPut f fd) (T : Txt K mg C)
    (GP : FnOk P w K mg base CX0 k fP fdP ["number"] spPrime) (FP : Fun K "is_prime" "is_prime" sPrime fP fdP) (bP : Binds K fdP ["number"] []) (gP : mg "is_prime" = some (.ref fP)) :
    FnOk P w K mg base CX0 (k + 1) f fd ["self", "deed", "prime"] (spPut C) := by
  obtain ⟨tw, gW⟩ := T.tW
  obtain ⟨tm, gM⟩ := T.tM
  refine F.ok scPut (fun vs H Q E h => ?_) (fun cdv A outer s H vs Q E hr h => ?_)
  · obtain ⟨x, d, n, st, rfl, _⟩ := h
    rfl
  · obtain ⟨x, d, n, st, rfl, ⟨dx, hx⟩, q⟩ := h
    refine ⟨_, pss_cons (ps_if (PW.pt (pw_or (pt_cmpR op_ge (pv 2) (pe_glob (v := .int 100) (by rfl) gM ⟨_, rfl⟩) (nomark _)) (pw_or1 (pt_not (pt_val (pe_call GP hr (by rfl) gP FP.kp bP .nil pass0 (pa_cons (pv 2) pa_nil)))))))
        (pss_one (ps_ret (pe_lst (pa_cons (pe_glob (v := .int (-22)) (by rfl) gW ⟨_, rfl⟩) pa_nil)))) pss_nil)
      (pss_cons (ps_set (i := 3) scPut.nd rfl (Or.inl rfl) (pe_fld (pv 0) rfl))
      (pss_cons (ps_fld (pv 0) (pv 2) rfl)
      (pss_cons (ps_if (pt_cmpR op_eq (pv 1) pe_int (nomark _)) (pss_one (ps_ret (pe_lst (pa_cons (pv 2) pa_nil)))) pss_nil)
      (pss_one (ps_ret (pe_lst (pa_cons (pv 3) pa_nil))))))), ?_⟩
    have bad : Kp266.okP n = false → ((1 : Nat) ≤ sizeLine ∧ ∀ p, H p = none → Q (.ref p) (upd H p (.lst [V.int (-22)]))) := fun e => by
      refine ⟨by decide, fun c nc => ?_⟩
      unfold putL at q
      rw [e, if_neg Bool.false_ne_true] at q
      refine q _ c (fun b o e _ => same_upd nc b o e) ⟨dx, same_upd nc _ _ hx⟩ nc upd_same
    refine ⟨_, rfl, _, _, rfl, rfl, _, rfl, ite2 (fun e => iteT ?_) (fun e => ?_)⟩
    · have e1 : (100 : Int) ≤ (n : Int) := of_decide_eq_true e
      refine bad ?_
      unfold Kp266.okP
      rw [decide_eq_false (by omega)]
      rfl
    · have e1 : ¬ (100 : Int) ≤ (n : Int) := fun z => e (decide_eq_true z)
      refine ⟨_, rfl, n, rfl, by omega, _, rfl, ?_⟩
      cases hpr : Kp266.isPrime n with
      | false =>
        refine iteT (bad ?_)
        unfold Kp266.okP
        rw [hpr, Bool.and_false]
      | true =>
        refine iteF ?_
        have ok : Kp266.okP n = true := by
          unfold Kp266.okP
          rw [hpr, Bool.and_true]
          exact decide_eq_true (by omega)
        unfold putL at q
        rw [if_pos ok] at q
        refine ⟨_, rfl, x, C, dx, _, _, rfl, hx, T.cl, T.nP, dF_prime _, ?_⟩
        refine ⟨_, rfl, _, rfl, x, C, dx, _, rfl, hx, T.cl, T.nP, (by show 1 < 1000; decide), ?_⟩
        rw [dF_set]
        have fin : ∀ (v : Int), v = (if d = 0 then (n : Int) else primeOf st) → ∀ c, (upd H x (.ins C dx (dF (n : Int)))) c = none → Q (.ref c) (upd (upd H x (.ins C dx (dF (n : Int)))) c (.lst [V.int v])) := fun v ev c nc => by
          have s1 := same_upd (o := HO.lst [V.int v]) nc
          have hcx : c ≠ x := fun z => by
            rw [z, upd_same] at nc
            cases nc
          refine q _ c (fun b o e hb => s1 b o ?_) ⟨dx, s1 _ _ upd_same⟩ ?_ ?_
          · rw [upd_ne hb]
            exact e
          · rw [upd_ne hcx] at nc
            exact nc
          · rw [upd_same, ev]
            rfl
        refine ⟨_, rfl, rfl, _, rfl, ite2 (fun e2 => ?_) (fun e2 => ?_)⟩
        · have ed : d = 0 := V.int.inj (of_decide_eq_true e2)
          exact ⟨_, rfl, (by show 1 ≤ sizeLine; decide), fin _ (by rw [if_pos ed])⟩
        · have ed : ¬ d = 0 := fun z => e2 (decide_eq_true (congrArg V.int z))
          exact ⟨_, rfl, (by show 1 ≤ sizeLine; decide), fin _ (by rw [if_neg ed])⟩

/-! ### answer -/
theorem NewD.later {x : Addr} {H H1 : Hp} {a : Option Nat × List Int} {Q : VK} (q : NewD C x H a Q) (sm : Same H H1) : NewD C x H1 a Q :=
  fun H' c kp ds nc hc => q H' c (fun b o h hb => kp b o (sm b o h) hb) ds (sm.free nc) hc
theorem NewD.one {x : Addr} {H : Hp} {a : Option Nat × List Int} {Q : VK} {st : Option Nat} {v : Int} (q : NewD C x H a Q) (hx : DeskAt C H x (primeOf st)) (e : a = (st, [v])) : (1 : Nat) ≤ sizeLine ∧ ∀ p, H p = none → Q (.ref p) (upd H p (.lst [V.int v])) := by
  subst e
  exact ⟨by decide, fun c nc => q.of_same hx rfl _ c (same_upd nc) nc upd_same⟩
theorem bound_row {d : Int} (h1 : 4 ≤ d) (h2 : d ≤ 14) : boundOf d ≤ 1000000 ∧ (d ≠ 5 → d ≠ 12 → boundOf d ≤ 200) := by
  have h : d = 4 ∨ d = 5 ∨ d = 6 ∨ d = 7 ∨ d = 8 ∨ d = 9 ∨ d = 10 ∨ d = 11 ∨ d = 12 ∨ d = 13 ∨ d = 14 := by omega
  rcases h with rfl | rfl | rfl | rfl | rfl | rfl | rfl | rfl | rfl | rfl | rfl <;> decide
theorem scAnswer : FnScope ["self", "deed", "numbers"] ["self", "deed", "numbers"] (defScope sAnswer) := ⟨rfl, rfl, rfl, by decide +kernel, rfl, by decide +kernel, by decide +kernel⟩
theorem ok_answer {f fP fB fC fT fO : Addr} {fd fdP fdB fdC fdT fdO : FuncData} {k : Nat} (F : Fun K "answer" "Desk.answer" sAnswer f fd) (T : Txt K mg C)
    (GP : FnOk P w K mg base CX0 k fP fdP ["self", "deed", "prime"] (spPut C)) (mP : Meth K C "put_prime" fP) (bP : Binds K fdP ["self", "deed", "prime"] [])
    (GB : FnOk P w K mg base CX0 k fB fdB ["deed"] spBound) (FB : Fun K "bound_of" "bound_of" sBound fB fdB) (bB : Binds K fdB ["deed"] []) (gB : mg "bound_of" = some (.ref fB))
    (GC : FnOk P w K mg base CX0 k fC fdC ["row", "place"] spChoose) (FC : Fun K "told_choose" "told_choose" sChoose fC fdC) (bC : Binds K fdC ["row", "place"] []) (gC : mg "told_choose" = some (.ref fC))
    (GT : FnOk P w K mg base CX0 k fT fdT ["prime", "row", "place"] spTimes) (FT : Fun K "times_at" "times_at" sTimes fT fdT) (bT : Binds K fdT ["prime", "row", "place"] []) (gT : mg "times_at" = some (.ref fT))
    (GO : FnOk P w K mg base CX0 k fO fdO ["prime", "deed", "numbers"] (spOfRow K)) (FO : Fun K "of_row" "of_row" sOfRow fO fdO) (bO : Binds K fdO ["prime", "deed", "numbers"] []) (gO : mg "of_row" = some (.ref fO)) :
    FnOk P w K mg base CX0 (k + 1) f fd ["self", "deed", "numbers"] (spAnswer C) := by
  obtain ⟨tw, gW⟩ := T.tW
  obtain ⟨tn, gN⟩ := T.tN
  obtain ⟨aP, gPl, hPl⟩ := T.pl
  refine F.ok scAnswer (fun vs H Q E h => ?_) (fun cdv A outer s H vs Q E hr h => ?_)
  · obtain ⟨x, a, d, ns, n, k, st, rfl, _⟩ := h
    rfl
  · obtain ⟨x, a, d, ns, n, k, st, rfl, hX, ok, hS, hN, q⟩ := h
    refine ⟨_, pss_cons (ps_if (PW.pt (pw_and (pt_cmpR op_gt (pv 1) pe_int (nomark _)) (pw_and1 (pt_cmpR op_eq (pe_fld (pv 0) rfl) pe_int (nomark _))))) (pss_one (ps_ret (pe_lst (pa_cons (pe_glob (v := .int (-11)) (by rfl) gN ⟨_, rfl⟩) pa_nil)))) pss_nil)
      (pss_cons (ps_if (pt_cmpR op_in_seq (pv 1) (pe_tup (pa_cons pe_int (pa_cons pe_int pa_nil))) (by rfl)) (pss_one (ps_ret (pe_meth (pv 0) T.cl mP GP hr bP .nil pass0 (pa_cons (pv 1) (pa_cons (pe_ix ix_list (pv 2) pe_int (fun _ _ => rfl)) pa_nil))))) pss_nil)
      (pss_cons (ps_if (pt_cmpR op_eq (pv 1) pe_int (nomark _)) (pss_one (ps_ret (pe_lst (pa_cons (pe_fld (pv 0) rfl) pa_nil)))) pss_nil)
      (pss_cons (ps_if (PW.pt (pw_or (pt_cmpR op_gt (pe_ix ix_list (pv 2) pe_int (fun _ _ => rfl)) (pe_call GB hr (by rfl) gB FB.kp bB .nil pass0 (pa_cons (pv 1) pa_nil)) (nomark _))
            (pw_or1 (PW.pt (pw_and (pt_cmpR op_in_seq (pv 1) (pe_glob (v := .ref aP) (by rfl) gPl rfl) (by rfl)) (pw_and1 (pt_cmpR op_gt (pe_ix ix_list (pv 2) pe_int (fun _ _ => rfl)) (pe_ix ix_list (pv 2) pe_int (fun _ _ => rfl)) (nomark _))))))))
          (pss_one (ps_ret (pe_lst (pa_cons (pe_glob (v := .int (-22)) (by rfl) gW ⟨_, rfl⟩) pa_nil)))) pss_nil)
      (pss_cons (ps_if (pt_cmpR op_eq (pv 1) pe_int (nomark _)) (pss_one (ps_ret (pe_call GC hr (by rfl) gC FC.kp bC .nil pass0 (pa_cons (pe_ix ix_list (pv 2) pe_int (fun _ _ => rfl)) (pa_cons (pe_ix ix_list (pv 2) pe_int (fun _ _ => rfl)) pa_nil))))) pss_nil)
      (pss_cons (ps_if (pt_cmpR op_eq (pv 1) pe_int (nomark _)) (pss_one (ps_ret (pe_lst (pa_cons (pe_call GT hr (by rfl) gT FT.kp bT .nil pass0 (pa_cons (pe_fld (pv 0) rfl) (pa_cons (pe_ix ix_list (pv 2) pe_int (fun _ _ => rfl)) (pa_cons (pe_ix ix_list (pv 2) pe_int (fun _ _ => rfl)) pa_nil)))) pa_nil)))) pss_nil)
      (pss_one (ps_ret (pe_call GO hr (by rfl) gO FO.kp bO .nil pass0 (pa_cons (pe_fld (pv 0) rfl) (pa_cons (pv 1) (pa_cons (pv 2) pa_nil))))))))))), ?_⟩
    obtain ⟨dx, hx⟩ := id hX
    refine ⟨_, rfl, _, _, rfl, rfl, _, rfl, ite2 (fun e => ⟨_, rfl, x, C, dx, _, _, rfl, hx, T.cl, T.nP, dF_prime _, rfl, _, rfl, ite2 (fun e2 => ?begun) (fun e2 => ?tailA)⟩) (fun e => iteF ?tailB)⟩
    case begun =>
      have e1 : (0 : Int) < d := of_decide_eq_true e
      have e3 : primeOf st = 0 := V.int.inj (of_decide_eq_true e2)
      refine q.one (st := st) hX ?_
      unfold ansL
      rw [if_pos ⟨e1, e3⟩]
    all_goals
      have hnb : ¬ (0 < d ∧ primeOf st = 0) := by
        first
          | exact fun z => e2 (decide_eq_true (congrArg V.int z.2))
          | exact fun z => e (decide_eq_true z.1)
      unfold ansL at q
      rw [if_neg hnb] at q
      refine ⟨_, rfl, (by show 2 ≤ sizeLine; decide), fun t nt => ⟨t, _, rfl, .inr (SqT.of upd_same), rfl, rfl, _, rfl, ?_⟩⟩
      have hin : inV (V.int d) [V.int 0, V.int 1] = decide (d ∈ ([0, 1] : List Int)) := inV_ints d [0, 1]
      have s1 : Same H (upd H t (.tup [V.int 0, V.int 1])) := same_upd nt
      replace q := q.later s1
      have hX1 : DeskAt C (upd H t (.tup [V.int 0, V.int 1])) x (primeOf st) := ⟨dx, s1 _ _ hx⟩
      have hx1 := s1 _ _ hx
      have hS1 := s1 _ _ hS
      generalize upd H t (.tup [V.int 0, V.int 1]) = H1 at q hX1 hx1 hS1 ⊢
      refine ite2 (fun e3 => ?_) (fun e3 => ?_)
      · have e4 : inV (V.int d) [V.int 0, V.int 1] = true := e3
        rw [hin] at e4
        have e5 : d = 0 ∨ d = 1 := by
          have := of_decide_eq_true e4
          simpa using this
        rw [if_pos e5] at q
        exact ⟨_, rfl, x, dx, _, rfl, hx1, dF_put _, _, rfl, _, rfl, a, _, _, _, rfl, rfl, SqL.of hS1, at0 (hN.one (by omega)), x, d, n, st, rfl, hX1, q⟩
      have e5 : ¬ (d = 0 ∨ d = 1) := fun z => e3 (show inV (V.int d) [V.int 0, V.int 1] = true by
        rw [hin]
        exact decide_eq_true (by simpa using z))
      rw [if_neg e5] at q
      clear e3
      -- deed == 15
      refine ⟨_, rfl, rfl, _, rfl, ite2 (fun e3 => ?_) (fun e3 => ?_)⟩
      · have ed : d = 15 := V.int.inj (of_decide_eq_true e3)
        rw [if_pos ed] at q
        exact ⟨_, rfl, x, C, dx, _, _, rfl, hx1, T.cl, T.nP, dF_prime _, q.one (st := st) hX1 rfl⟩
      have ed15 : ¬ d = 15 := fun z => e3 (decide_eq_true (congrArg V.int z))
      rw [if_neg ed15] at q
      clear e3
      have h0 := at0 (hN.one ed15)
      have lo := hN.lo
      have hi := hN.hi
      obtain ⟨p, rfl⟩ : ∃ p, st = some p := by
        cases st with
        | none => exact absurd ⟨by omega, rfl⟩ hnb
        | some p => exact ⟨p, rfl⟩
      obtain ⟨hp, hp2⟩ := ok p rfl
      have hin2 : inV (V.int d) [V.int 2, V.int 3] = decide (d ∈ ([2, 3] : List Int)) := inV_ints d [2, 3]
      have wrong : boundOf d < (n : Int) ∨ ((d = 2 ∨ d = 3) ∧ n < k) → ((1 : Nat) ≤ sizeLine ∧ ∀ p, H1 p = none → Q (.ref p) (upd H1 p (.lst [V.int (-22)]))) := fun z => by
        rw [if_pos z] at q
        exact q.one (st := some p) hX1 rfl
      refine ⟨_, rfl, a, _, _, _, rfl, rfl, SqL.of hS1, h0, _, rfl, d, rfl, _, _, rfl, rfl, _, rfl, ite2 (fun e3 => iteT (wrong (.inl (of_decide_eq_true e3)))) (fun e3 => ?_)⟩
      have nb : ¬ boundOf d < (n : Int) := fun z => e3 (decide_eq_true z)
      clear e3
      refine ⟨_, rfl, aP, _, rfl, .inr (hPl _), rfl, rfl, _, rfl, ite2 (fun e3 => ?_) (fun e3 => ?_)⟩
      · have e4 : inV (V.int d) [V.int 2, V.int 3] = true := e3
        rw [hin2] at e4
        have e5 : d = 2 ∨ d = 3 := by
          have := of_decide_eq_true e4
          simpa using this
        have h1 := at1 (hN.two (by omega))
        refine ⟨_, rfl, a, _, _, _, rfl, rfl, SqL.of hS1, h1, _, rfl, a, _, _, _, rfl, rfl, SqL.of hS1, h0, _, _, rfl, rfl, _, rfl, ite2 (fun e6 => wrong (.inr ⟨e5, ?_⟩)) (fun e6 => ?_)⟩
        · have : (n : Int) < (k : Int) := of_decide_eq_true e6
          omega
        have nk : ¬ (n : Int) < (k : Int) := fun z => e6 (decide_eq_true z)
        have nw : ¬ (boundOf d < (n : Int) ∨ ((d = 2 ∨ d = 3) ∧ n < k)) := fun z => z.elim nb fun z => by
          have := z.2
          omega
        rw [if_neg nw] at q
        have b2 : d = 2 → boundOf d = 60 := fun z => by rw [z]; decide
        have b3 : d = 3 → boundOf d = 1000000 := fun z => by rw [z]; decide
        refine ⟨_, rfl, rfl, _, rfl, ite2 (fun e7 => ?_) (fun e7 => ?_)⟩
        · have ed : d = 2 := V.int.inj (of_decide_eq_true e7)
          have hb := b2 ed
          rw [if_pos ed] at q
          exact ⟨_, rfl, a, _, _, _, rfl, rfl, SqL.of hS1, h0, _, rfl, a, _, _, _, rfl, rfl, SqL.of hS1, h1, n, k, rfl, by omega, by omega, q.of_same hX1 rfl⟩
        · have ed2 : ¬ d = 2 := fun z => e7 (decide_eq_true (congrArg V.int z))
          have ed : d = 3 := by omega
          have hb := b3 ed
          rw [if_neg ed2, if_pos ed] at q
          refine ⟨_, rfl, rfl, _, rfl, if_true_of (decide_eq_true (congrArg V.int ed)) ?_⟩
          exact ⟨_, rfl, x, C, dx, _, _, rfl, hx1, T.cl, T.nP, dF_prime _, _, rfl, a, _, _, _, rfl, rfl, SqL.of hS1, h0, _, rfl, a, _, _, _, rfl, rfl, SqL.of hS1, h1, p, n, k, rfl, hp, hp2, by omega, by omega, q.one (st := some p) hX1 rfl⟩
      · have e5' : ¬ (d = 2 ∨ d = 3) := fun z => e3 (show inV (V.int d) [V.int 2, V.int 3] = true by
          rw [hin2]
          exact decide_eq_true (by simpa using z))
        have ed2 : ¬ d = 2 := fun z => e5' (.inl z)
        have ed3 : ¬ d = 3 := fun z => e5' (.inr z)
        have nw : ¬ (boundOf d < (n : Int) ∨ ((d = 2 ∨ d = 3) ∧ n < k)) := fun z => z.elim nb fun z => e5' z.1
        rw [if_neg nw, if_neg ed2, if_neg ed3] at q
        refine ⟨_, rfl, rfl, _, rfl, if_false_of (decide_eq_false (fun z => ed2 (V.int.inj z))) ?_⟩
        refine ⟨_, rfl, rfl, _, rfl, if_false_of (decide_eq_false (fun z => ed3 (V.int.inj z))) ?_⟩
        have bl := bound_row (d := d) (by omega) (by omega)
        exact ⟨_, rfl, x, C, dx, _, _, rfl, hx1, T.cl, T.nP, dF_prime _, _, rfl, _, rfl, p, n, k, d, a, ns, rfl, hp, hp2, hS1, hN.one ed15, fun z => hN.two (.inr (.inr z)), by omega, fun z1 z2 => by have := bl.2 z1 z2; omega, q.of_same hX1 rfl⟩

/-! ### answers -/
theorem scAns : FnScope ["calls", "desk", "found", "at", "deed", "behind", "some"] ["calls"] (defScope sAns) := ⟨rfl, rfl, rfl, by decide +kernel, rfl, by decide +kernel, by decide +kernel⟩
theorem cut_calls (ns : List Int) (i m : Nat) (h : i + 1 + m ≤ ns.length) : cutV (ns.map V.int) (some ((i : Int) + 1)) (some ((i : Int) + 1 + (m : Int))) = ((ns.drop (i + 1)).take m).map V.int := by
  have e1 : HT.sIx (ns.map V.int).length 0 (some ((i : Int) + 1)) = i + 1 := by
    have z : (i : Int) + 1 = ((i + 1 : Nat) : Int) := by omega
    rw [z, HT.sIx_nat, List.length_map]
    omega
  have e2 : HT.sIx (ns.map V.int).length (ns.map V.int).length (some ((i : Int) + 1 + (m : Int))) = i + 1 + m := by
    have z : (i : Int) + 1 + (m : Int) = ((i + 1 + m : Nat) : Int) := by omega
    rw [z, HT.sIx_nat, List.length_map]
    omega
  unfold cutV
  rw [e1, e2, List.map_take, List.map_drop]
  congr 1
  omega
theorem at_ints {ns : List Int} {i : Nat} {d : Int} (h : ns[i]? = some d) : atI (ns.map V.int) (i : Int) = some (V.int d) := by
  refine atI_nat ?_
  rw [List.getElem?_map, h]
  rfl
theorem at_nums {d : Int} {m : Nat} (d0 : 0 ≤ d) (h : numbersL[d.toNat]? = some m) : atI (numbersL.map fun (m : Nat) => V.int (m : Int)) d = some (V.int (m : Int)) := by
  have e : d = ((d.toNat : Nat) : Int) := by omega
  refine (congrArg (atI _) e).trans (atI_nat ?_)
  rw [List.getElem?_map, h]
  rfl
theorem ok_ans {f fI fA : Addr} {fd fdI fdA : FuncData} {k : Nat} (F : Fun K "answers" "answers" sAns f fd) (T : Txt K mg C) (M : Mk K C fI)
    (GI : FnOk P w K mg base CX0 k fI fdI ["self"] (spInit C)) (bI : Binds K fdI ["self"] [])
    (GA : FnOk P w K mg base CX0 (k + 1) fA fdA ["self", "deed", "numbers"] (spAnswer C)) (mA : Meth K C "answer" fA) (bA : Binds K fdA ["self", "deed", "numbers"] []) (ml : mg "len" = none) :
    FnOk P w K mg base CX0 (k + 2) f fd ["calls"] (spAns K) := by
  obtain ⟨aN, gN, hNu⟩ := T.nu
  refine F.ok scAns (fun vs H Q E h => ?_) (fun cdv A outer s H vs Q E hr h => ?_)
  · obtain ⟨a, ns, rfl, _⟩ := h
    rfl
  · obtain ⟨a, ns, rfl, hS, hask, q⟩ := h
    refine ⟨_, pss_cons (ps_set (i := 1) scAns.nd rfl (Or.inl rfl) (pe_make0 M GI hr (by rfl) T.gC bI .nil pass0))
      (pss_cons (ps_set (i := 2) scAns.nd rfl (Or.inl rfl) (pe_lst pa_nil))
      (pss_cons (ps_set (i := 3) scAns.nd rfl (Or.inl rfl) pe_int)
      (pss_cons (ps_while PassesOwn.never (pt_cmpR op_lt (pv 3) (pe_callB call_len_seq (by rfl) ml PySem.boot_len (pa_cons (pv 0) pa_nil)) (nomark _))
        (pss_cons (ps_set (i := 4) scAns.nd rfl (Or.inl rfl) (pe_ix ix_list (pv 0) (pv 3) (fun _ _ => rfl)))
        (pss_cons (ps_set (i := 5) scAns.nd rfl (Or.inl rfl) (pe_op op_add (pe_op op_add (pv 3) pe_int) (pe_ix ix_tup (pe_glob (v := .ref aN) (by rfl) gN rfl) (pv 4) (fun _ _ => rfl))))
        (pss_cons (ps_set (i := 6) scAns.nd rfl (Or.inl rfl) (pe_meth (pv 1) T.cl mA GA hr bA .nil pass0 (pa_cons (pv 4) (pa_cons (pe_slice sl_list (pv 0) (po_some (pe_op op_add (pv 3) pe_int)) (po_some (pv 5))) pa_nil))))
        (pss_cons (ps_expr (pe_bm PySem.F.plainAttrs_list PySem.F.slot_list_append PySem.F.type_list_append mt_append (pv 2) (pa_cons (pe_callB call_len_seq (by rfl) ml PySem.boot_len (pa_cons (pv 6) pa_nil)) pa_nil)))
        (pss_cons (ps_expr (pe_bm PySem.F.plainAttrs_list PySem.F.slot_list_extend PySem.F.type_list_extend mt_extend (pv 2) (pa_cons (pv 6) pa_nil)))
        (pss_one (ps_set (i := 3) scAns.nd rfl (Or.inl rfl) (pv 5)))))))))
      (pss_one (ps_ret (pv 2)))))), ?_⟩
    obtain ⟨raw, hraw, hall, hshort⟩ := asked_of hask
    have hansw := answers_of hraw
    -- desk = Desk()
    intro x dx nx nd ne
    refine ⟨x, dx, rfl, upd_same, fun H1 J kp => ⟨rfl, ?_⟩⟩
    have s1 : Same H H1 := Same.made nx nd kp
    -- found = []; at = 0
    refine ⟨Nat.zero_le _, fun fo nfo => ?_⟩
    have nfoH : H fo = none := s1.free nfo
    refine ⟨fun m σ H' => ∃ (i g : Nat) (st : Option Nat) (fl : List Int) (cs : List (List (List Int))) (v4 v5 v6 : Option V), σ = [some (.ref a), some (.ref x), some (.ref fo), some (.int (i : Nat)), v4, v5, v6] ∧ m = ns.length - i ∧ i ≤ ns.length ∧ Same H H' ∧ DeskAt C H' x (primeOf st) ∧ StOk st ∧
        H' fo = some (.lst (fl.map V.int)) ∧ PyFlat.calls PyKp268.shape g (ns.drop i) = some cs ∧ (∀ c ∈ cs, Kp268Neutral.asked1 c = true) ∧ fl ++ PyFlat.told (PyFlat.played Kp268Neutral.step st cs) = PyKp268.answers ns,
      ⟨ns.length, 0, ns.length, none, [], raw, none, none, none, rfl, rfl, Nat.zero_le _, s1.trans (same_upd nfo), ?_, (fun p e => by cases e), upd_same, hraw, hall, hansw.symm⟩, ?_⟩
    · obtain ⟨dj, hj⟩ := J
      exact ⟨dj, same_upd nfo _ _ hj⟩
    · rintro m σ H' ⟨i, g, st, fl, cs, v4, v5, v6, rfl, rfl, hi, sm, hD, ok, hfo, hcs, hca, hfl⟩
      refine ⟨_, rfl, _, rfl, a, _, rfl, .inl (sm.seq hS), _, _, rfl, rfl, _, rfl, ite2 (fun e => ?_) (fun e => ?_)⟩
      · have e1 : (i : Int) < ((ns.map V.int).length : Nat) := of_decide_eq_true e
        rw [List.length_map] at e1
        have hil : i < ns.length := by omega
        rw [List.drop_eq_getElem_cons hil] at hcs
        generalize hd : ns[i] = d at hcs
        have hget : ns[i]? = some d := by rw [List.getElem?_eq_getElem hil, hd]
        obtain ⟨g', m, cs', hm, d0, d15, hmr, rfl, hcs'⟩ := calls_turn hcs
        rw [List.length_drop] at hmr
        have a1 := hca _ List.mem_cons_self
        obtain ⟨d', ns', n, k, ec, hN, hstep⟩ := step_law ok a1
        obtain ⟨rfl, rfl⟩ := List.cons.inj ec
        rw [told_cons, hstep] at hfl
        have ok' := ansL_ok ok d n k
        generalize hans : ansL st d n k = an at hfl ok' hstep
        have hlen : fl.length + (1 + an.2.length) ≤ 10000000 := by
          have z := congrArg List.length hfl
          rw [List.length_append, List.length_cons, List.length_append] at z
          omega
        obtain ⟨dj, hj⟩ := id hD
        have hxf : x ≠ fo := ne_of hj hfo (fun z => by cases z)
        refine ⟨fun σ' H'' => ∃ v4 v5 v6, σ' = [some (.ref a), some (.ref x), some (.ref fo), some (.int ((i + 1 + m : Nat) : Int)), v4, v5, v6] ∧ Same H H'' ∧ DeskAt C H'' x (primeOf an.1) ∧ H'' fo = some (.lst ((fl ++ (((an.2.length : Nat) : Int) :: an.2)).map V.int)), ?_, ?_⟩
        · rintro σ' H'' ⟨v4, v5, v6, rfl, sm', hD', hfo'⟩
          refine ⟨ns.length - (i + 1 + m), by omega, i + 1 + m, g', an.1, _, cs', v4, v5, v6, rfl, rfl, by omega, sm', hD', ok', hfo', ?_, fun c hc => hca c (List.mem_cons_of_mem _ hc), ?_⟩
          · rw [List.drop_drop] at hcs'
            exact hcs'
          · rw [List.append_assoc]
            exact hfl
        · have hA := sm.seq hS
          -- deed = calls[at]
          refine ⟨_, rfl, _, rfl, a, _, _, _, rfl, rfl, hA, at_ints hget, ?_⟩
          -- behind = at + 1 + NUMBERS[deed]
          refine ⟨_, rfl, _, _, rfl, rfl, _, rfl, aN, _, _, _, rfl, rfl, hNu _, at_nums d0 hm, _, _, rfl, rfl, ?_⟩
          -- some = desk.answer(deed, calls[at + 1:behind])
          refine ⟨_, rfl, x, dj, _, rfl, hj, dF_ans _, _, rfl, _, rfl, _, rfl, _, _, rfl, rfl, _, rfl, _, rfl, _, rfl, a, _, rfl, hA, fun c nc => ?_⟩
          have s2 := same_upd (o := HO.lst (cutV (ns.map V.int) (some ((i : Int) + 1)) (some ((i : Int) + 1 + (m : Int))))) nc
          have hcut := cut_calls ns i m (by omega)
          refine ⟨x, c, d, _, n, k, st, rfl, ⟨dj, s2 _ _ hj⟩, ok, ?_, hN, fun H2 p kp2 hD2 np hp2 => ?_⟩
          · rw [upd_same, hcut]
          rw [hans] at hD2 hp2
          have hfo2 : H2 fo = some (.lst (fl.map V.int)) := kp2 _ _ (s2 _ _ hfo) hxf.symm
          have hpf : p ≠ fo := fun z => by
            rw [z, s2 _ _ hfo] at np
            cases np
          -- found.append(len(some))
          refine ⟨_, rfl, .inl ⟨rfl, _, SqL.of hfo2⟩, _, rfl, p, _, rfl, .inl (SqL.of hp2), fo, _, _, rfl, rfl, hfo2, ?_, ?_⟩
          · rw [List.length_map]
            exact Nat.lt_of_lt_of_le (show fl.length < 10000001 by omega) (by decide)
          -- found.extend(some)
          refine ⟨_, rfl, .inl ⟨rfl, _, SqL.of upd_same⟩, _, rfl, fo, p, _, _, rfl, rfl, upd_same, (upd_ne hpf).trans hp2, ?_, ?_⟩
          · rw [List.length_append, List.length_map, List.length_map]
            show fl.length + 1 + an.2.length ≤ sizeLine
            exact Nat.le_trans (show fl.length + 1 + an.2.length ≤ 10000000 by omega) (by decide)
          -- at = behind
          refine ⟨_, rfl, some (.int d), some (.int ((i : Int) + 1 + (m : Int))), some (.ref p), ?_, fun b o hb => ?_, ?_, ?_⟩
          · have z : ((i + 1 + m : Nat) : Int) = (i : Int) + 1 + (m : Int) := by omega
            rw [z]
            rfl
          · rw [upd_ne (ne_of_none hb nfoH), upd_ne (ne_of_none hb nfoH)]
            exact kp2 _ _ (s2 _ _ (sm _ _ hb)) (ne_of_none hb nx)
          · obtain ⟨dk, hk⟩ := hD2
            refine ⟨dk, ?_⟩
            rw [upd_ne hxf, upd_ne hxf]
            exact hk
          · rw [upd_same, List.map_append, List.map_cons, List.length_map, List.append_assoc]
            rfl
      · have e1 : ¬ (i : Int) < ((ns.map V.int).length : Nat) := fun z => e (decide_eq_true z)
        rw [List.length_map] at e1
        have ei : i = ns.length := by omega
        subst ei
        rw [List.drop_length] at hcs
        have ec : cs = [] := by
          cases g <;> exact (Option.some.inj hcs).symm
        subst ec
        have ef : fl = PyKp268.answers ns := by
          rw [← hfl]
          exact (List.append_nil fl).symm
        subst ef
        exact ⟨_, rfl, q H' fo hfo⟩
end
end Pc

/-! The end. -/
namespace Pc
open PySem PySem.Spec PyProof.Rows L2
open PySem.W (Codec)
theorem kdi_of {K : PySem.W.Frag} {d : Addr} {es : Array DictEntry} {n : Nat} {kvs : List (Int × Int)} (l : K.lookup d = some ⟨.type "dict", none, .dict es n, #[]⟩) (h : Paired EntI es.toList kvs) (lo : (d == sysModules) = false) : KDI K d kvs :=
  ⟨⟨es.toList, n, by rw [Array.toArray_toList]; exact l, h⟩, lo⟩
theorem sqt_of {K : PySem.W.Frag} {d : Addr} {its : Array Value} {dd : Option Addr} {n : Nat} {sl : Array (Option Value)} {xs : List V} (l : K.lookup d = some ⟨.type "tuple", dd, .seq its n, sl⟩) (h : Vals xs its.toList) (hz : xs.length ≤ sizeLine) (H : Hp) : SqT K H d xs :=
  .inr ⟨_, its, n, l, rfl, rfl, (show its.toList.length ≤ sizeLine from (L2.Vals.length h) ▸ hz), h⟩
theorem all_mk {P : Program} {w : World} {K : PySem.W.Frag} {h : Heap} {mg : Str → Option Value} {fa C nB nM nP nN : Addr} (X : K.In h) (G : h.Ns mainGlobals mg) (hfa : mg "answers" = some (.ref fa))
    {f1 f2 f3 f4 f5 f6 f7 f8 f9 f10 f11 f12 f13 f14 f15 f16 f17 f18 f19 : Addr} {od1 an1 od2 an2 od3 an3 od4 an4 od5 an5 od6 an6 od7 an7 od8 an8 od9 an9 od10 an10 od11 an11 od12 an12 od13 an13 od14 an14 od15 an15 od16 an16 od17 an17 od18 an18 od19 an19 : Option Addr} {sl1 sl2 sl3 sl4 sl5 sl6 sl7 sl8 sl9 sl10 sl11 sl12 sl13 sl14 sl15 sl16 sl17 sl18 sl19 : Array (Option Value)} {oc1 kV1 dc1 pm1 cd1 ct1 oc2 kV2 dc2 pm2 cd2 ct2 oc3 kV3 dc3 pm3 cd3 ct3 oc4 kV4 dc4 pm4 cd4 ct4 oc5 kV5 dc5 pm5 cd5 ct5 oc6 kV6 dc6 pm6 cd6 ct6 oc7 kV7 dc7 pm7 cd7 ct7 oc8 kV8 dc8 pm8 cd8 ct8 oc9 kV9 dc9 pm9 cd9 ct9 oc10 kV10 dc10 pm10 cd10 ct10 oc11 kV11 dc11 pm11 cd11 ct11 oc12 kV12 dc12 pm12 cd12 ct12 oc13 kV13 dc13 pm13 cd13 ct13 oc14 kV14 dc14 pm14 cd14 ct14 oc15 kV15 dc15 pm15 cd15 ct15 oc16 kV16 dc16 pm16 cd16 ct16 oc17 kV17 dc17 pm17 cd17 ct17 oc18 kV18 dc18 pm18 cd18 ct18 oc19 kV19 dc19 pm19 cd19 ct19 : Value}
    {tNB tWR tNV tTM tMP tMR : Tok} {esB esM : Array DictEntry} {itP itN : Array Value} {nnB nnM nnP nnN : Nat} {ddP ddN : Option Addr} {slP slN : Array (Option Value)}
    (aC : PySem.W.nsIn K mainGlobals "Desk" = some (some (.ref C)))
    (a1 : PySem.W.nsIn K mainGlobals "is_prime" = some (some (.ref f1))) (l1 : K.lookup f1 = some ⟨oc1, od1, .func (PySem.W.fnOf "is_prime" "is_prime" (defArgs sPrime) (defBody sPrime) (defScope sPrime) .none kV1 dc1 pm1 an1 cd1 ct1), sl1⟩) (c1 : PySem.W.codeIn K cd1 "is_prime" = true) (k1 : PySem.W.keepIn K (.ref f1) = true)
    (a2 : PySem.W.nsIn K mainGlobals "ways" = some (some (.ref f2))) (l2 : K.lookup f2 = some ⟨oc2, od2, .func (PySem.W.fnOf "ways" "ways" (defArgs sWays) (defBody sWays) (defScope sWays) .none kV2 dc2 pm2 an2 cd2 ct2), sl2⟩) (c2 : PySem.W.codeIn K cd2 "ways" = true) (k2 : PySem.W.keepIn K (.ref f2) = true)
    (a3 : PySem.W.nsIn K mainGlobals "carried" = some (some (.ref f3))) (l3 : K.lookup f3 = some ⟨oc3, od3, .func (PySem.W.fnOf "carried" "carried" (defArgs sCarried) (defBody sCarried) (defScope sCarried) .none kV3 dc3 pm3 an3 cd3 ct3), sl3⟩) (c3 : PySem.W.codeIn K cd3 "carried" = true) (k3 : PySem.W.keepIn K (.ref f3) = true)
    (a4 : PySem.W.nsIn K mainGlobals "times_at" = some (some (.ref f4))) (l4 : K.lookup f4 = some ⟨oc4, od4, .func (PySem.W.fnOf "times_at" "times_at" (defArgs sTimes) (defBody sTimes) (defScope sTimes) .none kV4 dc4 pm4 an4 cd4 ct4), sl4⟩) (c4 : PySem.W.codeIn K cd4 "times_at" = true) (k4 : PySem.W.keepIn K (.ref f4) = true)
    (a5 : PySem.W.nsIn K mainGlobals "row_times" = some (some (.ref f5))) (l5 : K.lookup f5 = some ⟨oc5, od5, .func (PySem.W.fnOf "row_times" "row_times" (defArgs sRowT) (defBody sRowT) (defScope sRowT) .none kV5 dc5 pm5 an5 cd5 ct5), sl5⟩) (c5 : PySem.W.codeIn K cd5 "row_times" = true) (k5 : PySem.W.keepIn K (.ref f5) = true)
    (a6 : PySem.W.nsIn K mainGlobals "spared" = some (some (.ref f6))) (l6 : K.lookup f6 = some ⟨oc6, od6, .func (PySem.W.fnOf "spared" "spared" (defArgs sSpared) (defBody sSpared) (defScope sSpared) .none kV6 dc6 pm6 an6 cd6 ct6), sl6⟩) (c6 : PySem.W.codeIn K cd6 "spared" = true) (k6 : PySem.W.keepIn K (.ref f6) = true)
    (a7 : PySem.W.nsIn K mainGlobals "is_whole" = some (some (.ref f7))) (l7 : K.lookup f7 = some ⟨oc7, od7, .func (PySem.W.fnOf "is_whole" "is_whole" (defArgs sWhole) (defBody sWhole) (defScope sWhole) .none kV7 dc7 pm7 an7 cd7 ct7), sl7⟩) (c7 : PySem.W.codeIn K cd7 "is_whole" = true) (k7 : PySem.W.keepIn K (.ref f7) = true)
    (a8 : PySem.W.nsIn K mainGlobals "is_bare" = some (some (.ref f8))) (l8 : K.lookup f8 = some ⟨oc8, od8, .func (PySem.W.fnOf "is_bare" "is_bare" (defArgs sBare) (defBody sBare) (defScope sBare) .none kV8 dc8 pm8 an8 cd8 ct8), sl8⟩) (c8 : PySem.W.codeIn K cd8 "is_bare" = true) (k8 : PySem.W.keepIn K (.ref f8) = true)
    (a9 : PySem.W.nsIn K mainGlobals "listed" = some (some (.ref f9))) (l9 : K.lookup f9 = some ⟨oc9, od9, .func (PySem.W.fnOf "listed" "listed" (defArgs sListed) (defBody sListed) (defScope sListed) .none kV9 dc9 pm9 an9 cd9 ct9), sl9⟩) (c9 : PySem.W.codeIn K cd9 "listed" = true) (k9 : PySem.W.keepIn K (.ref f9) = true)
    (a10 : PySem.W.nsIn K mainGlobals "bound_of" = some (some (.ref f10))) (l10 : K.lookup f10 = some ⟨oc10, od10, .func (PySem.W.fnOf "bound_of" "bound_of" (defArgs sBound) (defBody sBound) (defScope sBound) .none kV10 dc10 pm10 an10 cd10 ct10), sl10⟩) (c10 : PySem.W.codeIn K cd10 "bound_of" = true) (k10 : PySem.W.keepIn K (.ref f10) = true)
    (a11 : PySem.W.nsIn K mainGlobals "told_choose" = some (some (.ref f11))) (l11 : K.lookup f11 = some ⟨oc11, od11, .func (PySem.W.fnOf "told_choose" "told_choose" (defArgs sChoose) (defBody sChoose) (defScope sChoose) .none kV11 dc11 pm11 an11 cd11 ct11), sl11⟩) (c11 : PySem.W.codeIn K cd11 "told_choose" = true) (k11 : PySem.W.keepIn K (.ref f11) = true)
    (a12 : PySem.W.nsIn K mainGlobals "told_spared" = some (some (.ref f12))) (l12 : K.lookup f12 = some ⟨oc12, od12, .func (PySem.W.fnOf "told_spared" "told_spared" (defArgs sToldSp) (defBody sToldSp) (defScope sToldSp) .none kV12 dc12 pm12 an12 cd12 ct12), sl12⟩) (c12 : PySem.W.codeIn K cd12 "told_spared" = true) (k12 : PySem.W.keepIn K (.ref f12) = true)
    (a13 : PySem.W.nsIn K mainGlobals "told_first" = some (some (.ref f13))) (l13 : K.lookup f13 = some ⟨oc13, od13, .func (PySem.W.fnOf "told_first" "told_first" (defArgs sFirst) (defBody sFirst) (defScope sFirst) .none kV13 dc13 pm13 an13 cd13 ct13), sl13⟩) (c13 : PySem.W.codeIn K cd13 "told_first" = true) (k13 : PySem.W.keepIn K (.ref f13) = true)
    (a14 : PySem.W.nsIn K mainGlobals "of_rows" = some (some (.ref f14))) (l14 : K.lookup f14 = some ⟨oc14, od14, .func (PySem.W.fnOf "of_rows" "of_rows" (defArgs sOfRows) (defBody sOfRows) (defScope sOfRows) .none kV14 dc14 pm14 an14 cd14 ct14), sl14⟩) (c14 : PySem.W.codeIn K cd14 "of_rows" = true) (k14 : PySem.W.keepIn K (.ref f14) = true)
    (a15 : PySem.W.nsIn K mainGlobals "of_row" = some (some (.ref f15))) (l15 : K.lookup f15 = some ⟨oc15, od15, .func (PySem.W.fnOf "of_row" "of_row" (defArgs sOfRow) (defBody sOfRow) (defScope sOfRow) .none kV15 dc15 pm15 an15 cd15 ct15), sl15⟩) (c15 : PySem.W.codeIn K cd15 "of_row" = true) (k15 : PySem.W.keepIn K (.ref f15) = true)
    (a16 : PySem.W.findIn K (.ref C) "__init__" = some (some (.ref f16))) (i16 : PySem.W.isFn K (.ref f16) = true) (l16 : K.lookup f16 = some ⟨oc16, od16, .func (PySem.W.fnOf "__init__" "Desk.__init__" (defArgs sInit) (defBody sInit) (defScope sInit) .none kV16 dc16 pm16 an16 cd16 ct16), sl16⟩) (c16 : PySem.W.codeIn K cd16 "Desk.__init__" = true) (k16 : PySem.W.keepIn K (.ref f16) = true)
    (a17 : PySem.W.findIn K (.ref C) "put_prime" = some (some (.ref f17))) (i17 : PySem.W.isFn K (.ref f17) = true) (l17 : K.lookup f17 = some ⟨oc17, od17, .func (PySem.W.fnOf "put_prime" "Desk.put_prime" (defArgs sPut) (defBody sPut) (defScope sPut) .none kV17 dc17 pm17 an17 cd17 ct17), sl17⟩) (c17 : PySem.W.codeIn K cd17 "Desk.put_prime" = true) (k17 : PySem.W.keepIn K (.ref f17) = true)
    (a18 : PySem.W.findIn K (.ref C) "answer" = some (some (.ref f18))) (i18 : PySem.W.isFn K (.ref f18) = true) (l18 : K.lookup f18 = some ⟨oc18, od18, .func (PySem.W.fnOf "answer" "Desk.answer" (defArgs sAnswer) (defBody sAnswer) (defScope sAnswer) .none kV18 dc18 pm18 an18 cd18 ct18), sl18⟩) (c18 : PySem.W.codeIn K cd18 "Desk.answer" = true) (k18 : PySem.W.keepIn K (.ref f18) = true)
    (a19 : PySem.W.nsIn K mainGlobals "answers" = some (some (.ref f19))) (l19 : K.lookup f19 = some ⟨oc19, od19, .func (PySem.W.fnOf "answers" "answers" (defArgs sAns) (defBody sAns) (defScope sAns) .none kV19 dc19 pm19 an19 cd19 ct19), sl19⟩) (c19 : PySem.W.codeIn K cd19 "answers" = true) (k19 : PySem.W.keepIn K (.ref f19) = true)
    (pg : PySem.W.plainGet K C Str.empty = true) (hd : PySem.W.hasDictIn K C = true) (po : PySem.W.plainOver K C = true) (sa : PySem.W.findIn K (.ref C) "__setattr__" = some (some (.builtin "object.__setattr__"))) (mk : PySem.W.makesIn K C = true) (kc : PySem.W.keepIn K (.ref C) = true) (nPr : PySem.W.findIn K (.ref C) "prime" = some none)
    (gNB : PySem.W.nsIn K mainGlobals "NOT_BEGUN" = some (some (.int (-11) tNB)))
    (gWR : PySem.W.nsIn K mainGlobals "WRONG" = some (some (.int (-22) tWR)))
    (gNV : PySem.W.nsIn K mainGlobals "NEVER" = some (some (.int (-33) tNV)))
    (gTM : PySem.W.nsIn K mainGlobals "THOUSAND_MILLIONS" = some (some (.int 1000000000 tTM)))
    (gMP : PySem.W.nsIn K mainGlobals "MOST_PRIME" = some (some (.int 100 tMP)))
    (gMR : PySem.W.nsIn K mainGlobals "MOST_ROW" = some (some (.int 1000000 tMR)))
    (z_range : PySem.W.nsIn K mainGlobals "range" = some none)
    (z_len : PySem.W.nsIn K mainGlobals "len" = some none)
    (z_int : PySem.W.nsIn K mainGlobals "int" = some none)
    (z_sum : PySem.W.nsIn K mainGlobals "sum" = some none)
    (z_max : PySem.W.nsIn K mainGlobals "max" = some none)
    (z_enumerate : PySem.W.nsIn K mainGlobals "enumerate" = some none)
    (gB : PySem.W.nsIn K mainGlobals "BOUNDS" = some (some (.ref nB))) (lB : K.lookup nB = some ⟨.type "dict", none, .dict esB nnB, #[]⟩) (vB : Paired EntI esB.toList boundsL) (oB : (nB == sysModules) = false)
    (gM : PySem.W.nsIn K mainGlobals "MORE_BOUNDS" = some (some (.ref nM))) (lM : K.lookup nM = some ⟨.type "dict", none, .dict esM nnM, #[]⟩) (vM : Paired EntI esM.toList moreL) (oM : (nM == sysModules) = false)
    (gP : PySem.W.nsIn K mainGlobals "OF_PLACES" = some (some (.ref nP))) (lP : K.lookup nP = some ⟨.type "tuple", ddP, .seq itP nnP, slP⟩) (vP : Vals [.int 2, .int 3] itP.toList)
    (gN : PySem.W.nsIn K mainGlobals "NUMBERS" = some (some (.ref nN))) (lN : K.lookup nN = some ⟨.type "tuple", ddN, .seq itN nnN, slN⟩) (vN : Vals (numbersL.map fun (m : Nat) => V.int (m : Int)) itN.toList) :
    ∃ fd : FuncData, (∀ (s : Shared) (us : List Value), us.length = (["calls"] : List Str).length → BindsTo s fd ⟨us, []⟩ ((["calls"] : List Str).zip us)) ∧ ∀ base : Heap, K.In base → base.Ns mainGlobals mg → FnOk P w K mg base CX0 8 fa fd ["calls"] (spAns K) := by
  have e := hfa.symm.trans (PySem.W.mg_of X G a19)
  cases e
  have T : Txt K mg C := ⟨⟨pg, hd, po, sa⟩, nPr, PySem.W.mg_of X G aC, ⟨_, PySem.W.mg_of X G gWR⟩, ⟨_, PySem.W.mg_of X G gNB⟩, ⟨_, PySem.W.mg_of X G gMP⟩,
    ⟨nP, PySem.W.mg_of X G gP, sqt_of lP vP (by show 2 ≤ sizeLine; decide)⟩, ⟨nN, PySem.W.mg_of X G gN, sqt_of lN vN (by show 16 ≤ sizeLine; decide)⟩⟩
  have F1 := fun_mk (st := sPrime) l1 c1 k1
  have b1 := F1.binds (ps := ["number"]) fun _ _ _ _ _ _ us hl => match us, hl with | [_], _ => rfl
  have F2 := fun_mk (st := sWays) l2 c2 k2
  have b2 := F2.binds (ps := ["many", "some"]) fun _ _ _ _ _ _ us hl => match us, hl with | [_, _], _ => rfl
  have F3 := fun_mk (st := sCarried) l3 c3 k3
  have b3 := F3.binds (ps := ["prime", "one", "other"]) fun _ _ _ _ _ _ us hl => match us, hl with | [_, _, _], _ => rfl
  have F4 := fun_mk (st := sTimes) l4 c4 k4
  have b4 := F4.binds (ps := ["prime", "row", "place"]) fun _ _ _ _ _ _ us hl => match us, hl with | [_, _, _], _ => rfl
  have F5 := fun_mk (st := sRowT) l5 c5 k5
  have b5 := F5.binds (ps := ["prime", "row"]) fun _ _ _ _ _ _ us hl => match us, hl with | [_, _], _ => rfl
  have F6 := fun_mk (st := sSpared) l6 c6 k6
  have b6 := F6.binds (ps := ["prime", "row"]) fun _ _ _ _ _ _ us hl => match us, hl with | [_, _], _ => rfl
  have F7 := fun_mk (st := sWhole) l7 c7 k7
  have b7 := F7.binds (ps := ["prime", "row"]) fun _ _ _ _ _ _ us hl => match us, hl with | [_, _], _ => rfl
  have F8 := fun_mk (st := sBare) l8 c8 k8
  have b8 := F8.binds (ps := ["prime", "row"]) fun _ _ _ _ _ _ us hl => match us, hl with | [_, _], _ => rfl
  have F9 := fun_mk (st := sListed) l9 c9 k9
  have b9 := F9.binds (ps := ["some"]) fun _ _ _ _ _ _ us hl => match us, hl with | [_], _ => rfl
  have F10 := fun_mk (st := sBound) l10 c10 k10
  have b10 := F10.binds (ps := ["deed"]) fun _ _ _ _ _ _ us hl => match us, hl with | [_], _ => rfl
  have F11 := fun_mk (st := sChoose) l11 c11 k11
  have b11 := F11.binds (ps := ["row", "place"]) fun _ _ _ _ _ _ us hl => match us, hl with | [_, _], _ => rfl
  have F12 := fun_mk (st := sToldSp) l12 c12 k12
  have b12 := F12.binds (ps := ["prime", "row"]) fun _ _ _ _ _ _ us hl => match us, hl with | [_, _], _ => rfl
  have F13 := fun_mk (st := sFirst) l13 c13 k13
  have b13 := F13.binds (ps := ["prime", "row"]) fun _ _ _ _ _ _ us hl => match us, hl with | [_, _], _ => rfl
  have F14 := fun_mk (st := sOfRows) l14 c14 k14
  have b14 := F14.binds (ps := ["prime", "deed", "last"]) fun _ _ _ _ _ _ us hl => match us, hl with | [_, _, _], _ => rfl
  have F15 := fun_mk (st := sOfRow) l15 c15 k15
  have b15 := F15.binds (ps := ["prime", "deed", "numbers"]) fun _ _ _ _ _ _ us hl => match us, hl with | [_, _, _], _ => rfl
  have F16 := fun_mk (st := sInit) l16 c16 k16
  have b16 := F16.binds (ps := ["self"]) fun _ _ _ _ _ _ us hl => match us, hl with | [_], _ => rfl
  have F17 := fun_mk (st := sPut) l17 c17 k17
  have b17 := F17.binds (ps := ["self", "deed", "prime"]) fun _ _ _ _ _ _ us hl => match us, hl with | [_, _, _], _ => rfl
  have F18 := fun_mk (st := sAnswer) l18 c18 k18
  have b18 := F18.binds (ps := ["self", "deed", "numbers"]) fun _ _ _ _ _ _ us hl => match us, hl with | [_, _, _], _ => rfl
  have F19 := fun_mk (st := sAns) l19 c19 k19
  have b19 := F19.binds (ps := ["calls"]) fun _ _ _ _ _ _ us hl => match us, hl with | [_], _ => rfl
  have m1 := PySem.W.mg_of X G a1
  have m2 := PySem.W.mg_of X G a2
  have m3 := PySem.W.mg_of X G a3
  have m4 := PySem.W.mg_of X G a4
  have m5 := PySem.W.mg_of X G a5
  have m6 := PySem.W.mg_of X G a6
  have m7 := PySem.W.mg_of X G a7
  have m8 := PySem.W.mg_of X G a8
  have m9 := PySem.W.mg_of X G a9
  have m10 := PySem.W.mg_of X G a10
  have m11 := PySem.W.mg_of X G a11
  have m12 := PySem.W.mg_of X G a12
  have m13 := PySem.W.mg_of X G a13
  have m14 := PySem.W.mg_of X G a14
  have m15 := PySem.W.mg_of X G a15
  have mz_range := PySem.W.mg_none_of X G z_range
  have mz_len := PySem.W.mg_none_of X G z_len
  have mz_int := PySem.W.mg_none_of X G z_int
  have mz_sum := PySem.W.mg_none_of X G z_sum
  have mz_max := PySem.W.mg_none_of X G z_max
  have mz_enumerate := PySem.W.mg_none_of X G z_enumerate
  have DB := kdi_of lB vB oB
  have DM := kdi_of lM vM oM
  refine ⟨PySem.W.fnOf "answers" "answers" (defArgs sAns) (defBody sAns) (defScope sAns) .none kV19 dc19 pm19 an19 cd19 ct19, fun s us hu => match us, hu with | [_], _ => .of_eq rfl, fun base _ _ => ?_⟩
  have P1 : ∀ k, FnOk P w K mg base CX0 (k + 1) f1 _ ["number"] spPrime := fun k => ok_prime F1 mz_range
  have P2 : ∀ k, FnOk P w K mg base CX0 (k + 1) f2 _ ["many", "some"] spWays := fun k => ok_ways F2 mz_range
  have P3 : ∀ k, FnOk P w K mg base CX0 (k + 1) f3 _ ["prime", "one", "other"] spCarried := fun k => ok_carried F3 mz_int
  have P4 : ∀ k, FnOk P w K mg base CX0 (k + 2) f4 _ ["prime", "row", "place"] spTimes := fun k => ok_times F4 (P3 k) F3 b3 m3
  have P5 : ∀ k, FnOk P w K mg base CX0 (k + 3) f5 _ ["prime", "row"] spRowT := fun k => ok_rowT F5 (P4 k) F4 b4 m4 mz_range
  have P6 : ∀ k, FnOk P w K mg base CX0 (k + 1) f6 _ ["prime", "row"] spSpared := fun k => ok_spared F6
  have P7 : ∀ k, FnOk P w K mg base CX0 (k + 4) f7 _ ["prime", "row"] spWhole := fun k => ok_whole F7 (P5 k) F5 b5 m5
  have P8 : ∀ k, FnOk P w K mg base CX0 (k + 2) f8 _ ["prime", "row"] spBare := fun k => ok_bare F8 (P6 k) F6 b6 m6
  have P9 : ∀ k, FnOk P w K mg base CX0 (k + 1) f9 _ ["some"] spListed := fun k => ok_listed F9 mz_len
  have P10 : ∀ k, FnOk P w K mg base CX0 (k + 1) f10 _ ["deed"] spBound := fun k => ok_bound F10 (PySem.W.mg_of X G gB) (PySem.W.mg_of X G gM) (PySem.W.mg_of X G gMR) DB DM
  have P11 : ∀ k, FnOk P w K mg base CX0 (k + 2) f11 _ ["row", "place"] spChoose := fun k => ok_choose F11 (P2 k) F2 b2 m2 (PySem.W.mg_of X G gTM)
  have P12 : ∀ k, FnOk P w K mg base CX0 (k + 2) f12 _ ["prime", "row"] spToldSp := fun k => ok_toldSp F12 (P6 k) F6 b6 m6
  have P13 : ∀ k, FnOk P w K mg base CX0 (k + 4) f13 _ ["prime", "row"] spFirst := fun k => ok_first F13 (P5 k) F5 b5 m5 (PySem.W.mg_of X G gNV) mz_enumerate
  have P14 : FnOk P w K mg base CX0 5 f14 _ ["prime", "deed", "last"] spOfRows := ok_ofRows F14 (P9 3) F9 b9 m9 (P7 0) F7 b7 m7 (P8 2) F8 b8 m8 (P6 3) F6 b6 m6 mz_range mz_sum
  have P15 : FnOk P w K mg base CX0 6 f15 _ ["prime", "deed", "numbers"] (spOfRow K) := ok_ofRow F15 (P9 4) F9 b9 m9 (P5 2) F5 b5 m5 (P12 3) F12 b12 m12 (P7 1) F7 b7 m7 (P8 3) F8 b8 m8 (P13 1) F13 b13 m13 (P3 4) F3 b3 m3 P14 F14 b14 m14 mz_int mz_max
  have P16 : FnOk P w K mg base CX0 6 f16 _ ["self"] (spInit C) := ok_init F16 T
  have P17 : FnOk P w K mg base CX0 6 f17 _ ["self", "deed", "prime"] (spPut C) := ok_put F17 T (P1 4) F1 b1 m1
  have P18 : FnOk P w K mg base CX0 7 f18 _ ["self", "deed", "numbers"] (spAnswer C) := ok_answer F18 T P17 ⟨a17, i17, k17⟩ b17 (P10 5) F10 b10 m10 (P11 4) F11 b11 m11 (P4 4) F4 b4 m4 P15 F15 b15 m15
  exact ok_ans F19 T ⟨mk, a16, i16, kc⟩ P16 b16 P18 ⟨a18, i18, k18⟩ b18 mz_len
end Pc
open PySem PySem.W PyProof.Rows
set_option maxRecDepth 100000 in
set_option maxHeartbeats 8000000 in
theorem PySem.Challenge.cw_primechoices_s01_answers_holds : PySem.Challenge.rw_primechoices_s01_answers.Holds := by
  w_on; k_headS; (case hw => exact ⟨[.list [.int 15]], by decide +kernel, by decide +kernel⟩)
  k_fillS
  refine L2.walk_specK (r := PySem.Challenge.rw_primechoices_s01_answers) (k := 8) (CX := L2.CX0) (ps := ["calls"]) (sp := Pc.spAns) (by decide +kernel) rfl rfl ⟨rfl, by decide, by decide⟩ (fun w h Y => PySem.W.kIn_of Y) ?F ?S (fun _ _ _ _ z => z)
  case F =>
    intro w mg fa h Y KX G hmg
    refine' Pc.all_mk KX G hmg ?aC ?a1 ?l1 ?c1 ?k1 ?a2 ?l2 ?c2 ?k2 ?a3 ?l3 ?c3 ?k3 ?a4 ?l4 ?c4 ?k4 ?a5 ?l5 ?c5 ?k5 ?a6 ?l6 ?c6 ?k6 ?a7 ?l7 ?c7 ?k7 ?a8 ?l8 ?c8 ?k8 ?a9 ?l9 ?c9 ?k9 ?a10 ?l10 ?c10 ?k10 ?a11 ?l11 ?c11 ?k11 ?a12 ?l12 ?c12 ?k12 ?a13 ?l13 ?c13 ?k13 ?a14 ?l14 ?c14 ?k14 ?a15 ?l15 ?c15 ?k15 ?a16 ?i16 ?l16 ?c16 ?k16 ?a17 ?i17 ?l17 ?c17 ?k17 ?a18 ?i18 ?l18 ?c18 ?k18 ?a19 ?l19 ?c19 ?k19 ?pg ?hd ?po ?sa ?mk ?kc ?nPr ?gNB ?gWR ?gNV ?gTM ?gMP ?gMR ?z_range ?z_len ?z_int ?z_sum ?z_max ?z_enumerate ?gB ?lB ?vB ?oB ?gM ?lM ?vM ?oM ?gP ?lP ?vP ?gN ?lN ?vN
    (case aC => k_is)
    (case a1 => k_is)
    (case l1 => k_is)
    (case c1 => k_is)
    (case k1 => k_is)
    (case a2 => k_is)
    (case l2 => k_is)
    (case c2 => k_is)
    (case k2 => k_is)
    (case a3 => k_is)
    (case l3 => k_is)
    (case c3 => k_is)
    (case k3 => k_is)
    (case a4 => k_is)
    (case l4 => k_is)
    (case c4 => k_is)
    (case k4 => k_is)
    (case a5 => k_is)
    (case l5 => k_is)
    (case c5 => k_is)
    (case k5 => k_is)
    (case a6 => k_is)
    (case l6 => k_is)
    (case c6 => k_is)
    (case k6 => k_is)
    (case a7 => k_is)
    (case l7 => k_is)
    (case c7 => k_is)
    (case k7 => k_is)
    (case a8 => k_is)
    (case l8 => k_is)
    (case c8 => k_is)
    (case k8 => k_is)
    (case a9 => k_is)
    (case l9 => k_is)
    (case c9 => k_is)
    (case k9 => k_is)
    (case a10 => k_is)
    (case l10 => k_is)
    (case c10 => k_is)
    (case k10 => k_is)
    (case a11 => k_is)
    (case l11 => k_is)
    (case c11 => k_is)
    (case k11 => k_is)
    (case a12 => k_is)
    (case l12 => k_is)
    (case c12 => k_is)
    (case k12 => k_is)
    (case a13 => k_is)
    (case l13 => k_is)
    (case c13 => k_is)
    (case k13 => k_is)
    (case a14 => k_is)
    (case l14 => k_is)
    (case c14 => k_is)
    (case k14 => k_is)
    (case a15 => k_is)
    (case l15 => k_is)
    (case c15 => k_is)
    (case k15 => k_is)
    (case a16 => k_is)
    (case i16 => k_is)
    (case l16 => k_is)
    (case c16 => k_is)
    (case k16 => k_is)
    (case a17 => k_is)
    (case i17 => k_is)
    (case l17 => k_is)
    (case c17 => k_is)
    (case k17 => k_is)
    (case a18 => k_is)
    (case i18 => k_is)
    (case l18 => k_is)
    (case c18 => k_is)
    (case k18 => k_is)
    (case a19 => k_is)
    (case l19 => k_is)
    (case c19 => k_is)
    (case k19 => k_is)
    (case pg => k_is)
    (case hd => k_is)
    (case po => k_is)
    (case sa => k_is)
    (case mk => k_is)
    (case kc => k_is)
    (case nPr => k_is)
    (case gNB => k_is)
    (case gWR => k_is)
    (case gNV => k_is)
    (case gTM => k_is)
    (case gMP => k_is)
    (case gMR => k_is)
    (case z_range => k_is)
    (case z_len => k_is)
    (case z_int => k_is)
    (case z_sum => k_is)
    (case z_max => k_is)
    (case z_enumerate => k_is)
    (case gB => k_is)
    (case lB => k_is)
    (case vB => repeat (first | exact .nil | refine .cons ⟨⟨_, rfl⟩, rfl, ⟨_, rfl⟩⟩ ?_))
    (case oB => rfl)
    (case gM => k_is)
    (case lM => k_is)
    (case vM => repeat (first | exact .nil | refine .cons ⟨⟨_, rfl⟩, rfl, ⟨_, rfl⟩⟩ ?_))
    (case oM => rfl)
    (case gP => k_is)
    (case lP => k_is)
    (case vP => repeat (first | exact .nil | refine .cons ⟨_, rfl⟩ ?_))
    (case gN => k_is)
    (case lN => k_is)
    (case vN => repeat (first | exact .nil | refine .cons ⟨_, rfl⟩ ?_))
  case S =>
    intro K H xs a hO hwi hask hx
    cases hx with
    | cons h1 h2 =>
      cases h2
      cases h1 with
      | lst hs ha =>
        have e := L2.ints_dw a.1 _ ha
        subst e
        exact ⟨_, a.1, rfl, hs, hask, fun H' p hp => .lst (L2.SqL.of hp) (L2.dw_ints _)⟩
